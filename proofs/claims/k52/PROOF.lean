import PyProof.Rows.All
import HandS.ForMost
import HandS.IsInst
import HandS.Exc
import HandS.Lambda
import HandS.TupAny
import HandS.Wide
import HandS.Style
import HandS.WordsExc
import HandS.ExcOwn
import HandS.ExcIs
import HandS.HotCalls
import KE.GoesEnum
import HandS.Iter
import HandS.Zip
import HandS.SetFor
import HandS.Deep
import KE.KNest
import HandS.Conv
import PyProof.ReprLen
import PyProof.Rows.StrOr
import PyProof.ReprRoads
import KE.SortData
import HandS.TupMul
import HandS.Dict
import HandS.Defaults
import HandS.Set
import KE.DataMinMax
import HandS.Flow
import HandS.Text
import HandS.SetKeys
import KE.DataFind
import PySem.Challenge.RW_waysranked_k52_least_fences
set_option Elab.async false
set_option linter.all false
set_option autoImplicit false
set_option maxRecDepth 100000
set_option maxHeartbeats 4000000
/-! FL: a functional layer over the hand layer. Values are data (PyData) or places of a small local heap of lists that the def changes. -/
namespace FL
open PySem PySem.Spec PyProof.Rows L2
abbrev St := L2.St

/-! ### data -/
/-- an exception: its class's name, its fields -/
structure Exn where
  cls : Str
  fs : List (Str × PyData)
/-- what an expression gives: data, or the n-th object of the def's own, an inner list of such an object, an exception that is held -/
inductive Sl where
  | val (d : PyData)
  | loc (n : Nat)
  | inn (n i : Nat)
  | exn (x : Exn)
abbrev Slot := Option Sl
/-- an object of the def's own -/
inductive Ob where
  | lst (ds : List PyData)
  | dic (kvs : List (Key × PyData))
  | lls (dss : List (List PyData))
  | dil (dss : List (List PyData)) (ks : List (Key × Nat))
  | gone
abbrev Hs := List Ob
inductive Rz (α : Type) where
  | ok (a : α) (h : Hs)
  | err (x : Exn) (h : Hs)
  | bad
def Rz.bind {α β : Type} (r : Rz α) (f : α → Hs → Rz β) : Rz β := match r with
  | .ok a h => f a h
  | .err x h => .err x h
  | .bad => .bad
abbrev En := List Slot
abbrev Ev := En → Hs → Rz Sl
abbrev Tv := En → Hs → Rz Bool
abbrev Av := En → Hs → Rz (List Sl)
inductive Fl where
  | next (e : En) (h : Hs)
  | ret (s : Sl) (h : Hs)
  | brk (e : En) (h : Hs)
  | cont (e : En) (h : Hs)
  | err (x : Exn) (e : En) (h : Hs)
  | bad
abbrev Sv := En → Hs → Fl

/-! ### data in the abstract heap, none of whose objects is among M -/
abbrev Ms := Addr → Prop
def QL (K : PySem.W.Frag) (H : Hp) (M : Ms) (a : Addr) (xs : List V) : Prop :=
  (Rd H a (.lst xs) ∧ ¬ M a) ∨
    ∃ (its : Array Value) (n : Nat), K.lookup a = some { cls := .type "list", data := .seq its n } ∧ its.size ≤ sizeLine ∧ Vals xs its.toList
def QT (K : PySem.W.Frag) (H : Hp) (M : Ms) (a : Addr) (xs : List V) : Prop :=
  (Rd H a (.tup xs) ∧ ¬ M a) ∨
    ∃ (o : Obj) (its : Array Value) (n : Nat), K.lookup a = some o ∧ o.cls = .type "tuple" ∧ o.data = .seq its n ∧ its.size ≤ sizeLine ∧ Vals xs its.toList
theorem QL.sq {K : PySem.W.Frag} {H : Hp} {M : Ms} {a : Addr} {xs : List V} (h : QL K H M a xs) : SqL K H a xs := by
  rcases h with h | ⟨its, n, h1, h2, h3⟩
  · exact .inl h.1
  · exact .inr ⟨_, its, n, h1, rfl, rfl, rfl, h2, h3⟩
theorem QT.sq {K : PySem.W.Frag} {H : Hp} {M : Ms} {a : Addr} {xs : List V} (h : QT K H M a xs) : SqT K H a xs := by
  rcases h with h | h
  · exact .inl h.1
  · exact .inr h
/-- a dict of whole numbers -/
def dcV (ps : List (Int × Int)) : List (Key × V) := ps.map fun p => (Sum.inl p.1, V.int p.2)
def dcD (ps : List (Int × Int)) : List (PyData × PyData) := ps.map fun p => (.int p.1, .int p.2)
def QD (H : Hp) (M : Ms) (a : Addr) (ps : List (Int × Int)) : Prop := H a = some (.dK (dcV ps)) ∧ ¬ M a
mutual
inductive Rp (K : PySem.W.Frag) (H : Hp) (M : Ms) : V → PyData → Prop
  | non : Rp K H M .non .none
  | bl (b : Bool) : Rp K H M (.bl b) (.bool b)
  | int (i : Int) : Rp K H M (.int i) (.int i)
  | str (x : Str) : Rp K H M (.str x) (.str x)
  | lst {a : Addr} {xs : List V} {ds : List PyData} : QL K H M a xs → RpAll K H M xs ds → Rp K H M (.ref a) (.list ds)
  | tup {a : Addr} {xs : List V} {ds : List PyData} : QT K H M a xs → RpAll K H M xs ds → Rp K H M (.ref a) (.tuple ds)
  | dct {a : Addr} (ps : List (Int × Int)) {ds : List (PyData × PyData)} : QD H M a ps → ds = dcD ps → Rp K H M (.ref a) (.dict ds)
inductive RpAll (K : PySem.W.Frag) (H : Hp) (M : Ms) : List V → List PyData → Prop
  | nil : RpAll K H M [] []
  | cons {v : V} {vs : List V} {d : PyData} {ds : List PyData} : Rp K H M v d → RpAll K H M vs ds → RpAll K H M (v :: vs) (d :: ds)
end
section
variable {K : PySem.W.Frag} {H H' : Hp} {M M' : Ms}
mutual
theorem Rp.map (f : ∀ a xs, QL K H M a xs → QL K H' M' a xs) (g : ∀ a xs, QT K H M a xs → QT K H' M' a xs) (k : ∀ a ps, QD H M a ps → QD H' M' a ps) : ∀ (d : PyData) (v : V), Rp K H M v d → Rp K H' M' v d
  | .none, _, h => by cases h; exact .non
  | .bool b, _, h => by cases h; exact .bl b
  | .int i, _, h => by cases h; exact .int i
  | .str x, _, h => by cases h; exact .str x
  | .list ds, _, h => by
    cases h with
    | lst h1 h2 => exact .lst (f _ _ h1) (RpAll.map f g k ds _ h2)
  | .tuple ds, _, h => by
    cases h with
    | tup h1 h2 => exact .tup (g _ _ h1) (RpAll.map f g k ds _ h2)
  | .dict _, _, h => by
    cases h with
    | dct ps h1 h2 => exact .dct ps (k _ _ h1) h2
theorem RpAll.map (f : ∀ a xs, QL K H M a xs → QL K H' M' a xs) (g : ∀ a xs, QT K H M a xs → QT K H' M' a xs) (k : ∀ a ps, QD H M a ps → QD H' M' a ps) : ∀ (ds : List PyData) (vs : List V), RpAll K H M vs ds → RpAll K H' M' vs ds
  | [], _, h => by cases h; exact .nil
  | d :: ds, _, h => by
    cases h with
    | cons h1 h2 => exact .cons (Rp.map f g k d _ h1) (RpAll.map f g k ds _ h2)
end
mutual
theorem Rp.dp : ∀ (d : PyData) (v : V), d.hasDict = false → Rp K H M v d → Dp K H v d
  | .none, _, _, h => by cases h; exact .non
  | .bool b, _, _, h => by cases h; exact .bl b
  | .int i, _, _, h => by cases h; exact .int i
  | .str x, _, _, h => by cases h; exact .str x
  | .list ds, _, n, h => by
    cases h with
    | lst h1 h2 => exact .lst h1.sq (RpAll.dp ds _ (by simpa only [PyData.hasDict] using n) h2)
  | .tuple ds, _, n, h => by
    cases h with
    | tup h1 h2 => exact .tup h1.sq (RpAll.dp ds _ (by simpa only [PyData.hasDict] using n) h2)
  | .dict _, _, n, h => by simp [PyData.hasDict] at n
theorem RpAll.dp : ∀ (ds : List PyData) (vs : List V), PyData.hasDictAll ds = false → RpAll K H M vs ds → DpAll K H vs ds
  | [], _, _, h => by cases h; exact .nil
  | d :: ds, _, n, h => by
    cases h with
    | cons h1 h2 =>
      have n' : (PyData.hasDict d || PyData.hasDictAll ds) = false := by simpa only [PyData.hasDictAll] using n
      rw [Bool.or_eq_false_iff] at n'
      exact .cons (Rp.dp d _ n'.1 h1) (RpAll.dp ds _ n'.2 h2)
end
theorem RpAll.length : ∀ {vs : List V} {ds : List PyData}, RpAll K H M vs ds → vs.length = ds.length
  | _, _, .nil => rfl
  | _, _, .cons _ t => congrArg (· + 1) (RpAll.length t)
theorem RpAll.get : ∀ {vs : List V} {ds : List PyData} {i : Nat} {d : PyData}, RpAll K H M vs ds → ds[i]? = some d → ∃ v, vs[i]? = some v ∧ Rp K H M v d
  | _, _, _, _, .nil, e => by simp at e
  | _, _, 0, _, .cons r _, e => by simp at e; subst e; exact ⟨_, rfl, r⟩
  | _, _, i + 1, _, .cons _ t, e => by
    obtain ⟨v, h1, h2⟩ := RpAll.get (i := i) t (by simpa using e)
    exact ⟨v, by simpa using h1, h2⟩
theorem RpAll.set {v : V} {d : PyData} (r : Rp K H M v d) : ∀ {vs : List V} {ds : List PyData} (i : Nat), RpAll K H M vs ds → RpAll K H M (vs.set i v) (ds.set i d)
  | _, _, _, .nil => .nil
  | _, _, 0, .cons _ t => .cons r t
  | _, _, i + 1, .cons q t => .cons q (RpAll.set r i t)
theorem RpAll.append : ∀ {vs ws : List V} {ds es : List PyData}, RpAll K H M vs ds → RpAll K H M ws es → RpAll K H M (vs ++ ws) (ds ++ es)
  | _, _, _, _, .nil, s => s
  | _, _, _, _, .cons r t, s => .cons r (RpAll.append t s)
theorem RpAll.take : ∀ {vs : List V} {ds : List PyData} (n : Nat), RpAll K H M vs ds → RpAll K H M (vs.take n) (ds.take n)
  | _, _, 0, _ => .nil
  | _, _, _ + 1, .nil => .nil
  | _, _, n + 1, .cons r t => .cons r (RpAll.take n t)
theorem RpAll.drop : ∀ {vs : List V} {ds : List PyData} (n : Nat), RpAll K H M vs ds → RpAll K H M (vs.drop n) (ds.drop n)
  | _, _, 0, r => r
  | _, _, _ + 1, .nil => .nil
  | _, _, n + 1, .cons _ t => RpAll.drop n t
theorem RpAll.eraseIdx : ∀ {vs : List V} {ds : List PyData} (n : Nat), RpAll K H M vs ds → RpAll K H M (vs.eraseIdx n) (ds.eraseIdx n)
  | _, _, _, .nil => .nil
  | _, _, 0, .cons _ t => t
  | _, _, n + 1, .cons r t => .cons r (RpAll.eraseIdx n t)
theorem RpAll.rev {vs : List V} {ds : List PyData} (h : RpAll K H M vs ds) : RpAll K H M vs.reverse ds.reverse := by
  induction vs generalizing ds with
  | nil => cases h; exact .nil
  | cons v vs ih =>
    cases h with
    | cons r t =>
      rw [List.reverse_cons, List.reverse_cons]
      exact RpAll.append (ih t) (.cons r .nil)
end

/-! ### steps: what is not among M stays -/
/-- it stays; a table may grow -/
def Kp (o o' : HO) : Prop := o' = o ∨ ∃ ps ps' : Array Value, o = .tbl ps ∧ o' = .tbl ps'
def NT (o : HO) : Prop := ∀ ps : Array Value, o ≠ .tbl ps
theorem Kp.trans {a b c : HO} (x : Kp a b) (y : Kp b c) : Kp a c := by
  rcases x with rfl | ⟨p, q, rfl, rfl⟩
  · exact y
  · rcases y with rfl | ⟨p', q', _, rfl⟩
    · exact .inr ⟨p, q, rfl, rfl⟩
    · exact .inr ⟨p, q', rfl, rfl⟩
theorem Kp.nt {a b : HO} (x : Kp a b) (n : NT a) : b = a := by
  rcases x with rfl | ⟨p, q, rfl, rfl⟩
  · rfl
  · exact absurd rfl (n p)
theorem nt_lst {xs : List V} : NT (.lst xs) := fun _ z => nomatch z
structure Stp (M : Ms) (H : Hp) (M' : Ms) (H' : Hp) : Prop where
  keepK : ∀ b o, H b = some o → ¬ M b → ∃ o', H' b = some o' ∧ Kp o o'
  new : ∀ b, M' b → M b ∨ H b = none
theorem Stp.keep {M M' : Ms} {H H' : Hp} (s : Stp M H M' H') {b : Addr} {o : HO} (e : H b = some o) (n : ¬ M b) (t : NT o) : H' b = some o := by
  obtain ⟨o', e', k⟩ := s.keepK b o e n
  rw [e', k.nt t]
theorem keepE {H H' : Hp} {M : Ms} (f : ∀ b o, H b = some o → ¬ M b → H' b = some o) : ∀ b o, H b = some o → ¬ M b → ∃ o', H' b = some o' ∧ Kp o o' := fun b o e n => ⟨o, f b o e n, .inl rfl⟩
theorem Stp.refl (M : Ms) (H : Hp) : Stp M H M H := ⟨keepE fun _ _ e _ => e, fun _ m => .inl m⟩
theorem Stp.trans {M M1 M2 : Ms} {H H1 H2 : Hp} (a : Stp M H M1 H1) (b : Stp M1 H1 M2 H2) : Stp M H M2 H2 where
  keepK := fun c o e n => by
    obtain ⟨o1, e1, k1⟩ := a.keepK c o e n
    obtain ⟨o2, e2, k2⟩ := b.keepK c o1 e1 fun m => by
      rcases a.new c m with q | q
      · exact n q
      · rw [e] at q; cases q
    exact ⟨o2, e2, k1.trans k2⟩
  new := fun c m => by
    rcases b.new c m with q | q
    · exact a.new c q
    · by_cases hm : M c
      · exact .inl hm
      · refine .inr ?_
        cases e : H c with
        | none => rfl
        | some o =>
          obtain ⟨o', e', _⟩ := a.keepK c o e hm
          rw [e'] at q; cases q
section
variable {K : PySem.W.Frag} {H H' : Hp} {M M' : Ms}
theorem Rd.stp {a : Addr} {u : HO} (s : Stp M H M' H') (h : Rd H a u) (n : ¬ M a) (t : NT u) : Rd H' a u ∧ ¬ M' a := by
  have key : ∀ o, H a = some o → NT o → H' a = some o ∧ ¬ M' a := fun o e t => ⟨s.keep e n t, fun m => by
    rcases s.new a m with q | q
    · exact n q
    · rw [e] at q; cases q⟩
  rcases h with h | ⟨o, h⟩
  · exact ⟨.inl (key _ h t).1, (key _ h t).2⟩
  · exact ⟨.inr ⟨o, (key _ h fun _ z => (nomatch z)).1⟩, (key _ h fun _ z => (nomatch z)).2⟩
theorem QL.stp {a : Addr} {xs : List V} (s : Stp M H M' H') (h : QL K H M a xs) : QL K H' M' a xs := by
  rcases h with h | h
  · exact .inl (Rd.stp s h.1 h.2 fun _ z => nomatch z)
  · exact .inr h
theorem QT.stp {a : Addr} {xs : List V} (s : Stp M H M' H') (h : QT K H M a xs) : QT K H' M' a xs := by
  rcases h with h | h
  · exact .inl (Rd.stp s h.1 h.2 fun _ z => nomatch z)
  · exact .inr h
theorem QD.stp {a : Addr} {ps : List (Int × Int)} (s : Stp M H M' H') (h : QD H M a ps) : QD H' M' a ps := ⟨s.keep h.1 h.2 (fun _ z => nomatch z), fun m => by
  rcases s.new a m with q | q
  · exact h.2 q
  · rw [h.1] at q; cases q⟩
theorem Rp.stp {v : V} {d : PyData} (s : Stp M H M' H') (h : Rp K H M v d) : Rp K H' M' v d := Rp.map (fun _ _ => QL.stp s) (fun _ _ => QT.stp s) (fun _ _ => QD.stp s) d v h
theorem RpAll.stp {vs : List V} {ds : List PyData} (s : Stp M H M' H') (h : RpAll K H M vs ds) : RpAll K H' M' vs ds := RpAll.map (fun _ _ => QL.stp s) (fun _ _ => QT.stp s) (fun _ _ => QD.stp s) ds vs h
/-- fewer are barred -/
theorem QL.fewer {a : Addr} {xs : List V} (s : ∀ b, M' b → M b) (h : QL K H M a xs) : QL K H M' a xs := by
  rcases h with h | h
  · exact .inl ⟨h.1, fun m => h.2 (s _ m)⟩
  · exact .inr h
theorem QT.fewer {a : Addr} {xs : List V} (s : ∀ b, M' b → M b) (h : QT K H M a xs) : QT K H M' a xs := by
  rcases h with h | h
  · exact .inl ⟨h.1, fun m => h.2 (s _ m)⟩
  · exact .inr h
theorem Rp.fewer {v : V} {d : PyData} (s : ∀ b, M' b → M b) (h : Rp K H M v d) : Rp K H M' v d := Rp.map (fun _ _ => QL.fewer s) (fun _ _ => QT.fewer s) (fun _ _ q => ⟨q.1, fun m => q.2 (s _ m)⟩) d v h
theorem RpAll.fewer {vs : List V} {ds : List PyData} (s : ∀ b, M' b → M b) (h : RpAll K H M vs ds) : RpAll K H M' vs ds := RpAll.map (fun _ _ => QL.fewer s) (fun _ _ => QT.fewer s) (fun _ _ q => ⟨q.1, fun m => q.2 (s _ m)⟩) ds vs h
/-- a new object that is not barred -/
theorem Stp.laid {p : Addr} {o : HO} (h : H p = none) : Stp M H M (upd H p o) :=
  ⟨keepE fun b u e _ => by rw [upd_ne (ne_of_none e h)]; exact e, fun _ m => .inl m⟩
end

/-! ### a def's own objects -/
/-- where a def began: its heap, the objects that it may change for its caller, those that it may not hand on -/
abbrev Fps := List (List Addr)
theorem pfx_rfl {α : Type} {l : List α} : l <+: l := ⟨[], List.append_nil _⟩
structure Fc where
  H0 : Hp
  W : Fps
  Bar : Ms
  T : List (Addr × Str)
  exc : Option (Addr × Exn)
/-- tables and code objects stay -/
def TabKp (H H' : Hp) : Prop := (∀ b ps, H b = some (.tbl ps) → H' b = some (.tbl ps)) ∧ ∀ b f, H b = some (.ext f) → H' b = some (.ext f)
theorem TabKp.tabs {T : List (Addr × Str)} {H H' : Hp} (k : TabKp H H') (t : LamX.Tabs T H) : LamX.Tabs T H' := fun p hp => by
  obtain ⟨ps, h1, h2, h3⟩ := t p hp
  refine ⟨ps, k.1 _ _ h1, h2, fun pos cv hc => ?_⟩
  obtain ⟨c, e1, e2⟩ := h3 pos cv hc
  exact ⟨c, e1, k.2 _ _ e2⟩
theorem TabKp.new {H : Hp} {p : Addr} {o : HO} (e : H p = none) : TabKp H (upd H p o) := ⟨fun b ps q => by rw [upd_ne (ne_of_none q e)]; exact q, fun b f q => by rw [upd_ne (ne_of_none q e)]; exact q⟩
/-- neither a table nor a code object -/
def NTE (o : HO) : Prop := (∀ ps : Array Value, o ≠ .tbl ps) ∧ ∀ f, o ≠ .ext f
theorem TabKp.put {H : Hp} {p : Addr} {o u : HO} (e : H p = some u) (n : NTE u) : TabKp H (upd H p o) := ⟨fun b ps q => by
  have : b ≠ p := fun z => by rw [z, e] at q; exact n.1 ps (Option.some.inj q)
  rw [upd_ne this]; exact q, fun b f q => by
  have : b ≠ p := fun z => by rw [z, e] at q; exact n.2 f (Option.some.inj q)
  rw [upd_ne this]; exact q⟩
theorem nte_lst {xs : List V} : NTE (.lst xs) := ⟨fun _ z => (nomatch z), fun _ z => (nomatch z)⟩
theorem nte_dK {xs : List (Key × V)} : NTE (.dK xs) := ⟨fun _ z => (nomatch z), fun _ z => (nomatch z)⟩
def Mo (C : Fc) (ρ : Fps) : Ms := fun a => a ∈ ρ.flatten ∨ C.Bar a
/-- what stands at a footprint -/
def ObOk (K : PySem.W.Frag) (H : Hp) (M : Ms) (fp : List Addr) : Ob → Prop
  | .lst ds => ∃ a vs, fp = [a] ∧ H a = some (.lst vs) ∧ RpAll K H M vs ds
  | .dic kvs => ∃ a vs, fp = [a] ∧ H a = some (.dK vs) ∧ vs.map (·.1) = kvs.map (·.1) ∧ RpAll K H M (vs.map (·.2)) (kvs.map (·.2))
  | .lls dss => ∃ a bs, fp = a :: bs ∧ H a = some (.lst (bs.map V.ref)) ∧ bs.length = dss.length ∧ ∀ (i : Nat) (b : Addr) (ds : List PyData), bs[i]? = some b → dss[i]? = some ds → ∃ vs, H b = some (.lst vs) ∧ RpAll K H M vs ds
  | .dil dss ks => ∃ a bs, fp = a :: bs ∧ H a = some (.dK (ks.map fun r => (r.1, V.ref (bs.getD r.2 0)))) ∧ (∀ r ∈ ks, r.2 < bs.length) ∧ bs.length = dss.length ∧ ∀ (i : Nat) (b : Addr) (ds : List PyData), bs[i]? = some b → dss[i]? = some ds → ∃ vs, H b = some (.lst vs) ∧ RpAll K H M vs ds
  | .gone => fp = []
structure SimH (K : PySem.W.Frag) (C : Fc) (ρ : Fps) (h : Hs) (H : Hp) : Prop where
  len : ρ.length = h.length
  nd : ρ.flatten.Nodup
  trk : ∀ a ∈ ρ.flatten, ∃ o, H a = some o
  obj : ∀ (n : Nat) (fp : List Addr) (o : Ob), ρ[n]? = some fp → h[n]? = some o → ObOk K H (Mo C ρ) fp o
  frK : ∀ b o, C.H0 b = some o → b ∉ C.W.flatten → ∃ o', H b = some o' ∧ Kp o o'
  own : ∀ a ∈ ρ.flatten, a ∈ C.W.flatten ∨ C.H0 a = none
  bar : ∀ b, C.Bar b → b ∉ ρ.flatten ∧ ∃ o, H b = some o
  wtr : ∀ a ∈ C.W.flatten, ∃ o, H a = some o
  pre : ∀ (n : Nat) (fp : List Addr), C.W[n]? = some fp → ρ[n]? = some fp
  tab : LamX.Tabs C.T H
theorem SimH.fr {K : PySem.W.Frag} {C : Fc} {ρ : Fps} {h : Hs} {H : Hp} (S : SimH K C ρ h H) {b : Addr} {o : HO} (e : C.H0 b = some o) (n : b ∉ C.W.flatten) (t : NT o) : H b = some o := by
  obtain ⟨o', e', k⟩ := S.frK b o e n
  rw [e', k.nt t]
def SlV (K : PySem.W.Frag) (C : Fc) (ρ : Fps) (H : Hp) (v : V) : Sl → Prop
  | .val d => Rp K H (Mo C ρ) v d
  | .loc n => ∃ (fp : List Addr) (a : Addr), ρ[n]? = some fp ∧ fp.head? = some a ∧ v = .ref a
  | .inn n i => ∃ (fp : List Addr) (a : Addr), ρ[n]? = some fp ∧ fp[i + 1]? = some a ∧ v = .ref a
  | .exn x => ∃ a : Addr, C.exc = some (a, x) ∧ v = .ref a
def SlVs (K : PySem.W.Frag) (C : Fc) (ρ : Fps) (H : Hp) : List V → List Sl → Prop := Paired (SlV K C ρ H)
structure EnvOk (K : PySem.W.Frag) (C : Fc) (ρ : Fps) (H : Hp) (env : En) (σ : St) : Prop where
  len : env.length = σ.length
  at_ : ∀ (i : Nat) (s : Sl), env[i]? = some (some s) → ∃ v, σ[i]? = some (some v) ∧ SlV K C ρ H v s
/-- a step within a def: roots stay -/
structure Ex (C : Fc) (ρ : Fps) (H : Hp) (ρ' : Fps) (H' : Hp) : Prop where
  stp : Stp (Mo C ρ) H (Mo C ρ') H'
  root : ∀ (n : Nat) (fp : List Addr), ρ[n]? = some fp → ∃ fp' : List Addr, ρ'[n]? = some fp' ∧ fp <+: fp'
section
variable {K : PySem.W.Frag} {C : Fc} {ρ ρ1 ρ2 : Fps} {H H1 H2 : Hp} {h h1 : Hs} {env : En} {σ : St} {v : V} {s : Sl}
theorem Ex.refl (C : Fc) (ρ : Fps) (H : Hp) : Ex C ρ H ρ H := ⟨Stp.refl _ _, fun _ fp e => ⟨fp, e, pfx_rfl⟩⟩
theorem Ex.trans (a : Ex C ρ H ρ1 H1) (b : Ex C ρ1 H1 ρ2 H2) : Ex C ρ H ρ2 H2 := ⟨a.stp.trans b.stp, fun n fp e => by
  obtain ⟨fp1, e1, q1⟩ := a.root n fp e
  obtain ⟨fp2, e2, q2⟩ := b.root n fp1 e1
  exact ⟨fp2, e2, q1.trans q2⟩⟩
theorem pfx_get {α : Type} {l m : List α} {i : Nat} {x : α} (p : l <+: m) (e : l[i]? = some x) : m[i]? = some x := by
  obtain ⟨r, rfl⟩ := p
  rw [List.getElem?_append_left (List.getElem?_eq_some_iff.mp e).1]
  exact e
theorem pfx_head {α : Type} {l m : List α} {x : α} (p : l <+: m) (e : l.head? = some x) : m.head? = some x := by
  rw [List.head?_eq_getElem?] at e ⊢
  exact pfx_get p e
theorem SlV.ex (x : Ex C ρ H ρ1 H1) (r : SlV K C ρ H v s) : SlV K C ρ1 H1 v s := by
  cases s with
  | val d => exact Rp.stp x.stp r
  | loc n =>
    obtain ⟨fp, a, e, q, rfl⟩ := r
    obtain ⟨fp', e', q'⟩ := x.root n fp e
    exact ⟨fp', a, e', pfx_head q' q, rfl⟩
  | inn n i =>
    obtain ⟨fp, a, e, q, rfl⟩ := r
    obtain ⟨fp', e', q'⟩ := x.root n fp e
    exact ⟨fp', a, e', pfx_get q' q, rfl⟩
  | exn x => exact r
theorem SlVs.ex (x : Ex C ρ H ρ1 H1) {vs : List V} {ss : List Sl} (r : SlVs K C ρ H vs ss) : SlVs K C ρ1 H1 vs ss := Paired.mapP r fun _ _ z => SlV.ex x z
theorem EnvOk.ex (x : Ex C ρ H ρ1 H1) (e : EnvOk K C ρ H env σ) : EnvOk K C ρ1 H1 env σ :=
  ⟨e.len, fun i s q => let ⟨v, a, b⟩ := e.at_ i s q; ⟨v, a, SlV.ex x b⟩⟩
theorem EnvOk.set (e : EnvOk K C ρ H env σ) (r : SlV K C ρ H v s) (i : Nat) : EnvOk K C ρ H (env.set i (some s)) (σ.set i (some v)) := by
  refine ⟨by rw [List.length_set, List.length_set]; exact e.len, fun j t q => ?_⟩
  by_cases hj : i = j
  · subst hj
    rw [List.getElem?_set] at q
    rw [if_pos rfl] at q
    split at q
    · rename_i hi
      have q' : s = t := by simpa using q
      subst q'
      refine ⟨v, ?_, r⟩
      rw [List.getElem?_set, if_pos rfl, if_pos (by rw [← e.len]; exact hi)]
    · cases q
  · rw [List.getElem?_set_ne hj] at q
    obtain ⟨u, a, b⟩ := e.at_ j t q
    exact ⟨u, by rw [List.getElem?_set_ne hj]; exact a, b⟩
theorem EnvOk.forget (e : EnvOk K C ρ H env σ) {env' : En} (hl : env'.length = env.length) (w : ∀ (i : Nat) s, env'[i]? = some (some s) → env[i]? = some (some s)) : EnvOk K C ρ H env' σ :=
  ⟨hl.trans e.len, fun i s q => e.at_ i s (w i s q)⟩
theorem SimH.trkM (S : SimH K C ρ h H) {a : Addr} (m : Mo C ρ a) : ∃ o, H a = some o := by
  rcases m with m | m
  · exact S.trk a m
  · exact (S.bar a m).2
theorem SimH.fresh (S : SimH K C ρ h H) {p : Addr} (e : H p = none) : ¬ Mo C ρ p := fun m => by
  obtain ⟨o, q⟩ := S.trkM m
  rw [e] at q; cases q
theorem ObOk.stp {M M' : Ms} {fp : List Addr} {o : Ob} (s : Stp M H M' H1) (k : ∀ a ∈ fp, H1 a = H a) (x : ObOk K H M fp o) : ObOk K H1 M' fp o := by
  cases o with
  | lst ds =>
    obtain ⟨a, vs, rfl, e, r⟩ := x
    exact ⟨a, vs, rfl, (k a (by simp)).trans e, r.stp s⟩
  | dic kvs =>
    obtain ⟨a, vs, rfl, e, q, r⟩ := x
    exact ⟨a, vs, rfl, (k a (by simp)).trans e, q, r.stp s⟩
  | lls dss =>
    obtain ⟨a, bs, rfl, e, l, w⟩ := x
    refine ⟨a, bs, rfl, (k a (by simp)).trans e, l, fun i b ds e1 e2 => ?_⟩
    obtain ⟨vs, e3, r⟩ := w i b ds e1 e2
    exact ⟨vs, (k b (List.mem_cons_of_mem _ (List.mem_of_getElem? e1))).trans e3, r.stp s⟩
  | dil dss ks =>
    obtain ⟨a, bs, rfl, e, u, l, w⟩ := x
    refine ⟨a, bs, rfl, (k a (by simp)).trans e, u, l, fun i b ds e1 e2 => ?_⟩
    obtain ⟨vs, e3, r⟩ := w i b ds e1 e2
    exact ⟨vs, (k b (List.mem_cons_of_mem _ (List.mem_of_getElem? e1))).trans e3, r.stp s⟩
  | gone => exact x
theorem ObOk.nte {M : Ms} {fp : List Addr} {o : Ob} (x : ObOk K H M fp o) {a : Addr} (m : a ∈ fp) : ∃ u, H a = some u ∧ NTE u := by
  cases o with
  | lst ds =>
    obtain ⟨b, vs, rfl, e, r⟩ := x
    have : a = b := by simpa using m
    subst this
    exact ⟨_, e, nte_lst⟩
  | dic kvs =>
    obtain ⟨b, vs, rfl, e, q, r⟩ := x
    have : a = b := by simpa using m
    subst this
    exact ⟨_, e, nte_dK⟩
  | lls dss =>
    obtain ⟨b, bs, rfl, e, l, w⟩ := x
    rcases List.mem_cons.mp m with z | z
    · subst z
      exact ⟨_, e, nte_lst⟩
    · obtain ⟨i, hi, ei⟩ := List.getElem_of_mem z
      have hl : i < dss.length := by omega
      obtain ⟨vs, e3, _⟩ := w i a dss[i] (by rw [← ei]; exact List.getElem?_eq_getElem hi) (List.getElem?_eq_getElem hl)
      exact ⟨_, e3, nte_lst⟩
  | dil dss ks =>
    obtain ⟨b, bs, rfl, e, _, l, w⟩ := x
    rcases List.mem_cons.mp m with z | z
    · subst z
      exact ⟨_, e, nte_dK⟩
    · obtain ⟨i, hi, ei⟩ := List.getElem_of_mem z
      have hl : i < dss.length := by omega
      obtain ⟨vs, e3, _⟩ := w i a dss[i] (by rw [← ei]; exact List.getElem?_eq_getElem hi) (List.getElem?_eq_getElem hl)
      exact ⟨_, e3, nte_lst⟩
  | gone =>
    rw [show fp = [] from x] at m
    cases m
/-- a new object that nobody may change: data -/
theorem SimH.laid (S : SimH K C ρ h H) {p : Addr} {o : HO} (e : H p = none) : SimH K C ρ h (upd H p o) where
  len := S.len
  nd := S.nd
  trk := fun a m => by
    obtain ⟨u, q⟩ := S.trk a m
    exact ⟨u, by rw [upd_ne (ne_of_none q e)]; exact q⟩
  obj := fun n fp ob e1 e2 => ObOk.stp (Stp.laid e) (fun a m => by
    obtain ⟨u, q⟩ := S.trk a (List.mem_flatten.mpr ⟨fp, List.mem_of_getElem? e1, m⟩)
    exact upd_ne (ne_of_none q e)) (S.obj n fp ob e1 e2)
  frK := fun b u q n => by
    obtain ⟨u', q', k⟩ := S.frK b u q n
    exact ⟨u', by rw [upd_ne (ne_of_none q' e)]; exact q', k⟩
  own := S.own
  bar := fun b m => by
    obtain ⟨n, u, q⟩ := S.bar b m
    exact ⟨n, u, by rw [upd_ne (ne_of_none q e)]; exact q⟩
  wtr := fun a m => by
    obtain ⟨u, q⟩ := S.wtr a m
    exact ⟨u, by rw [upd_ne (ne_of_none q e)]; exact q⟩
  pre := S.pre
  tab := (TabKp.new e).tabs S.tab
theorem Ex.laid (S : SimH K C ρ h H) {p : Addr} {o : HO} (e : H p = none) : Ex C ρ H ρ (upd H p o) := ⟨Stp.laid e, fun _ fp q => ⟨fp, q, pfx_rfl⟩⟩
/-- a tuple laid -/
theorem Rp.newTup (S : SimH K C ρ h H) {p : Addr} {vs : List V} {ds : List PyData} (e : H p = none) (r : RpAll K H (Mo C ρ) vs ds) : Rp K (upd H p (.tup vs)) (Mo C ρ) (.ref p) (.tuple ds) :=
  .tup (.inl ⟨.inl upd_same, S.fresh e⟩) (r.stp (Stp.laid e))
theorem Rp.newLst (S : SimH K C ρ h H) {p : Addr} {vs : List V} {ds : List PyData} (e : H p = none) (r : RpAll K H (Mo C ρ) vs ds) : Rp K (upd H p (.lst vs)) (Mo C ρ) (.ref p) (.list ds) :=
  .lst (.inl ⟨.inl upd_same, S.fresh e⟩) (r.stp (Stp.laid e))
end
theorem flatten_snoc (ρ : Fps) (fp : List Addr) : (ρ ++ [fp]).flatten = ρ.flatten ++ fp := by simp
section
variable {K : PySem.W.Frag} {C : Fc} {ρ : Fps} {H : Hp} {h : Hs}
theorem Mo.snoc {a b : Addr} (m : Mo C (ρ ++ [[a]]) b) : Mo C ρ b ∨ b = a := by
  rcases m with m | m
  · rw [flatten_snoc] at m
    rcases List.mem_append.mp m with m | m
    · exact .inl (.inl m)
    · exact .inr (by simpa using m)
  · exact .inl (.inr m)
theorem Stp.push {p : Addr} {o : HO} (e : H p = none) : Stp (Mo C ρ) H (Mo C (ρ ++ [[p]])) (upd H p o) where
  keepK := keepE fun b u q _ => by rw [upd_ne (ne_of_none q e)]; exact q
  new := fun b m => by
    rcases Mo.snoc m with m | m
    · exact .inl m
    · exact .inr (m ▸ e)
theorem get_snoc {α : Type} {l : List α} {x y : α} {n : Nat} (e : (l ++ [x])[n]? = some y) : l[n]? = some y ∨ (n = l.length ∧ y = x) := by
  by_cases hn : n < l.length
  · rw [List.getElem?_append_left hn] at e
    exact .inl e
  · rw [List.getElem?_append_right (by omega)] at e
    have : n - l.length = 0 := by
      cases q : n - l.length with
      | zero => rfl
      | succ m => rw [q] at e; simp at e
    rw [this] at e
    refine .inr ⟨by omega, ?_⟩
    have e' : x = y := by simpa using e
    exact e'.symm
/-- a new object of the def's own -/
theorem SimH.push (S : SimH K C ρ h H) {p : Addr} {o : HO} {ob : Ob} (e : H p = none) (x : ObOk K (upd H p o) (Mo C (ρ ++ [[p]])) [p] ob) : SimH K C (ρ ++ [[p]]) (h ++ [ob]) (upd H p o) where
  len := by rw [List.length_append, List.length_append, S.len]; rfl
  nd := by
    rw [flatten_snoc, List.nodup_append]
    refine ⟨S.nd, by simp, fun a m b m' z => ?_⟩
    have m'' : b = p := by simpa using m'
    subst m''
    subst z
    obtain ⟨u, q⟩ := S.trk a m
    rw [e] at q; cases q
  trk := fun a m => by
    rw [flatten_snoc] at m
    rcases List.mem_append.mp m with m | m
    · obtain ⟨u, q⟩ := S.trk a m
      exact ⟨u, by rw [upd_ne (ne_of_none q e)]; exact q⟩
    · have : a = p := by simpa using m
      subst this
      exact ⟨o, upd_same⟩
  obj := fun n fp q e1 e2 => by
    rcases get_snoc e1 with e1 | ⟨hn, e1⟩
    · rcases get_snoc e2 with e2 | ⟨hn2, e2⟩
      · refine ObOk.stp (Stp.push e) (fun a m => ?_) (S.obj n fp q e1 e2)
        obtain ⟨u, z⟩ := S.trk a (List.mem_flatten.mpr ⟨fp, List.mem_of_getElem? e1, m⟩)
        exact upd_ne (ne_of_none z e)
      · have := (List.getElem?_eq_some_iff.mp e1).1
        have := S.len
        omega
    · subst e1
      rcases get_snoc e2 with e2 | ⟨hn2, e2⟩
      · have := (List.getElem?_eq_some_iff.mp e2).1
        have := S.len
        omega
      · subst e2
        exact x
  frK := fun b u q n => by
    obtain ⟨u', q', k⟩ := S.frK b u q n
    exact ⟨u', by rw [upd_ne (ne_of_none q' e)]; exact q', k⟩
  own := fun a m => by
    rw [flatten_snoc] at m
    rcases List.mem_append.mp m with m | m
    · exact S.own a m
    · have : a = p := by simpa using m
      subst this
      by_cases hw : a ∈ C.W.flatten
      · exact .inl hw
      · refine .inr ?_
        cases q : C.H0 a with
        | none => rfl
        | some u =>
          obtain ⟨u', q', _⟩ := S.frK a u q hw
          rw [q'] at e; cases e
  bar := fun b m => by
    obtain ⟨n, u, q⟩ := S.bar b m
    refine ⟨fun z => ?_, u, by rw [upd_ne (ne_of_none q e)]; exact q⟩
    rw [flatten_snoc] at z
    rcases List.mem_append.mp z with z | z
    · exact n z
    · have : b = p := by simpa using z
      subst this
      rw [e] at q; cases q
  wtr := fun a m => by
    obtain ⟨u, q⟩ := S.wtr a m
    exact ⟨u, by rw [upd_ne (ne_of_none q e)]; exact q⟩
  pre := fun n fp q => by
    have e' := S.pre n fp q
    rw [List.getElem?_append_left (List.getElem?_eq_some_iff.mp e').1]; exact e'
  tab := (TabKp.new e).tabs S.tab
theorem Ex.push {p : Addr} {o : HO} (e : H p = none) : Ex C ρ H (ρ ++ [[p]]) (upd H p o) := ⟨Stp.push e, fun n fp q => ⟨fp, by
  rw [List.getElem?_append_left (List.getElem?_eq_some_iff.mp q).1]; exact q, pfx_rfl⟩⟩
theorem SlV.pushed {p : Addr} (H : Hp) : SlV K C (ρ ++ [[p]]) H (.ref p) (.loc ρ.length) := ⟨[p], p, by simp, rfl, rfl⟩
theorem flat_at {n : Nat} {fp : List Addr} {a : Addr} (e : ρ[n]? = some fp) (m : a ∈ fp) : a ∈ ρ.flatten := List.mem_flatten.mpr ⟨fp, List.mem_of_getElem? e, m⟩
theorem nodup_apart : ∀ {ρ : Fps} {n m : Nat} {f g : List Addr} {a : Addr}, ρ.flatten.Nodup → ρ[n]? = some f → ρ[m]? = some g → a ∈ f → a ∈ g → n = m
  | [], _, _, _, _, _, _, e, _, _, _ => by simp at e
  | x :: r, n, m, f, g, a, nd, e1, e2, m1, m2 => by
    rw [List.flatten_cons, List.nodup_append] at nd
    obtain ⟨_, nd2, dj⟩ := nd
    cases n with
    | zero =>
      cases m with
      | zero => rfl
      | succ m =>
        have e1' : x = f := by simpa using e1
        subst e1'
        exact absurd rfl (dj a m1 a (flat_at (ρ := r) (n := m) (by simpa using e2) m2))
    | succ n =>
      cases m with
      | zero =>
        have e2' : x = g := by simpa using e2
        subst e2'
        exact absurd rfl (dj a m2 a (flat_at (ρ := r) (n := n) (by simpa using e1) m1))
      | succ m => exact congrArg (· + 1) (nodup_apart (ρ := r) nd2 (by simpa using e1) (by simpa using e2) m1 m2)
/-- an object of the def's own is changed -/
theorem SimH.write (S : SimH K C ρ h H) {n : Nat} {a : Addr} {o : HO} {ob : Ob} (e : ρ[n]? = some [a]) (x : ObOk K (upd H a o) (Mo C ρ) [a] ob) : SimH K C ρ (h.set n ob) (upd H a o) ∧ Ex C ρ H ρ (upd H a o) := by
  have ma : a ∈ ρ.flatten := flat_at e (by simp)
  have st : Stp (Mo C ρ) H (Mo C ρ) (upd H a o) := ⟨keepE fun b u q nm => by
    have : b ≠ a := fun z => nm (z ▸ .inl ma)
    rw [upd_ne this]; exact q, fun _ m => .inl m⟩
  have tk : TabKp H (upd H a o) := by
    have hl : n < h.length := by rw [← S.len]; exact (List.getElem?_eq_some_iff.mp e).1
    obtain ⟨u, eu, nu⟩ := (S.obj n [a] _ e (List.getElem?_eq_getElem hl)).nte (a := a) (by simp)
    exact TabKp.put eu nu
  refine ⟨⟨by rw [List.length_set]; exact S.len, S.nd, fun b m => ?_, fun k fp q e1 e2 => ?_, fun b u q nw => ?_, S.own, fun b m => ?_, fun b m => ?_, S.pre, tk.tabs S.tab⟩, ⟨st, fun _ fp q => ⟨fp, q, pfx_rfl⟩⟩⟩
  · by_cases hb : b = a
    · subst hb; exact ⟨o, upd_same⟩
    · obtain ⟨u, q⟩ := S.trk b m
      exact ⟨u, by rw [upd_ne hb]; exact q⟩
  · by_cases hk : n = k
    · subst hk
      rw [e] at e1; cases e1
      rw [List.getElem?_set, if_pos rfl] at e2
      split at e2
      · cases e2; exact x
      · cases e2
    · rw [List.getElem?_set_ne hk] at e2
      refine ObOk.stp st (fun b m => upd_ne fun z => ?_) (S.obj k fp q e1 e2)
      subst z
      exact hk (nodup_apart S.nd e e1 (by simp) m)
  · obtain ⟨u', q', kk⟩ := S.frK b u q nw
    have : b ≠ a := fun z => by
      subst z
      rcases S.own b ma with w | w
      · exact nw w
      · rw [q] at w; cases w
    exact ⟨u', by rw [upd_ne this]; exact q', kk⟩
  · obtain ⟨n, u, q⟩ := S.bar b m
    have : b ≠ a := fun z => n (z ▸ ma)
    exact ⟨n, u, by rw [upd_ne this]; exact q⟩
  · by_cases hb : b = a
    · subst hb; exact ⟨o, upd_same⟩
    · obtain ⟨u, q⟩ := S.wtr b m
      exact ⟨u, by rw [upd_ne hb]; exact q⟩
theorem SimH.lst (S : SimH K C ρ h H) {n : Nat} {fp : List Addr} {a : Addr} {ds : List PyData} (e1 : ρ[n]? = some fp) (e2 : fp.head? = some a) (e3 : h[n]? = some (.lst ds)) : ρ[n]? = some [a] ∧ ∃ vs, H a = some (.lst vs) ∧ RpAll K H (Mo C ρ) vs ds := by
  obtain ⟨b, vs, rfl, q, r⟩ := S.obj n fp _ e1 e3
  have : b = a := by simpa using e2
  subst this
  exact ⟨e1, vs, q, r⟩
/-! ### frames within frames -/
/-- one more that is barred -/
def Fc.plus (C : Fc) (D : Addr) : Fc := { C with Bar := fun a => C.Bar a ∨ a = D }
/-- a part of the def's run as a frame of its own: it may change the def's own objects -/
def Fc.sub (C : Fc) (ρ : Fps) (H : Hp) : Fc := { H0 := H, W := ρ, Bar := C.Bar, T := C.T, exc := C.exc }
theorem SimH.sub (S : SimH K C ρ h H) : SimH K (C.sub ρ H) ρ h H where
  len := S.len
  nd := S.nd
  trk := S.trk
  obj := S.obj
  frK := fun _ o e _ => ⟨o, e, .inl rfl⟩
  own := fun _ m => .inl m
  bar := S.bar
  wtr := S.trk
  pre := fun n fp e => e
  tab := S.tab
theorem SimH.back (S : SimH K C ρ h H) {ρ1 : Fps} {h1 : Hs} {H1 : Hp} (S1 : SimH K (C.sub ρ H) ρ1 h1 H1) (w : ∀ a ∈ C.W.flatten, ∃ o, H1 a = some o) : SimH K C ρ1 h1 H1 where
  len := S1.len
  nd := S1.nd
  trk := S1.trk
  obj := S1.obj
  frK := fun b o e n => by
    obtain ⟨o1, e1, k1⟩ := S.frK b o e n
    obtain ⟨o2, e2, k2⟩ := S1.frK b o1 e1 fun m => by
      rcases S.own b m with q | q
      · exact n q
      · rw [e] at q; cases q
    exact ⟨o2, e2, k1.trans k2⟩
  own := fun a m => by
    rcases S1.own a m with q | q
    · exact S.own a q
    · by_cases hw : a ∈ C.W.flatten
      · exact .inl hw
      · refine .inr ?_
        cases e : C.H0 a with
        | none => rfl
        | some o =>
          have q' : H a = none := q
          obtain ⟨o1, e1, _⟩ := S.frK a o e hw
          rw [e1] at q'; cases q'
  bar := S1.bar
  wtr := w
  pre := fun n fp e => S1.pre n fp (S.pre n fp e)
  tab := S1.tab
theorem SimH.wsub (S : SimH K C ρ h H) {ρ1 : Fps} {h1 : Hs} {H1 : Hp} (S1 : SimH K (C.sub ρ H) ρ1 h1 H1) : ∀ a ∈ C.W.flatten, ∃ o, H1 a = some o := fun a m => by
  by_cases hm : a ∈ ρ.flatten
  · exact S1.wtr a hm
  · obtain ⟨o, e⟩ := S.wtr a m
    obtain ⟨o1, e1, _⟩ := S1.frK a o e hm
    exact ⟨o1, e1⟩
theorem SimH.backW (S : SimH K C ρ h H) {ρ1 : Fps} {h1 : Hs} {H1 : Hp} (S1 : SimH K (C.sub ρ H) ρ1 h1 H1) : SimH K C ρ1 h1 H1 := S.back S1 (S.wsub S1)
/-- a new object, barred for a while -/
theorem Stp.plus {D : Addr} {o : HO} (e : H D = none) : Stp (Mo C ρ) H (Mo (C.plus D) ρ) (upd H D o) where
  keepK := keepE fun b u q _ => by rw [upd_ne (ne_of_none q e)]; exact q
  new := fun b m => by
    rcases m with m | m | m
    · exact .inl (.inl m)
    · exact .inl (.inr m)
    · exact .inr (m ▸ e)
theorem SimH.plus (S : SimH K C ρ h H) {D : Addr} {o : HO} (e : H D = none) : SimH K (C.plus D) ρ h (upd H D o) where
  len := S.len
  nd := S.nd
  trk := (S.laid (o := o) e).trk
  obj := fun n fp ob e1 e2 => ObOk.stp (Stp.plus e) (fun a m => by
    obtain ⟨u, q⟩ := S.trk a (flat_at e1 m)
    exact upd_ne (ne_of_none q e)) (S.obj n fp ob e1 e2)
  frK := (S.laid (o := o) e).frK
  own := S.own
  bar := fun b m => by
    rcases m with m | m
    · exact (S.laid (o := o) e).bar b m
    · subst m
      refine ⟨fun z => ?_, o, upd_same⟩
      obtain ⟨u, q⟩ := S.trk b z
      rw [e] at q; cases q
  wtr := (S.laid (o := o) e).wtr
  pre := S.pre
  tab := (TabKp.new e).tabs S.tab
/-- a barred object is changed: no data has it -/
theorem Stp.poke {D : Addr} {o : HO} (b : C.Bar D) : Stp (Mo C ρ) H (Mo C ρ) (upd H D o) where
  keepK := keepE fun c u q n => by
    have : c ≠ D := fun z => n (z ▸ .inr b)
    rw [upd_ne this]; exact q
  new := fun _ m => .inl m
theorem SimH.poke (S : SimH K C ρ h H) {D : Addr} {o u0 : HO} (b : C.Bar D) (n0 : C.H0 D = none) (e0 : H D = some u0) (nt : NTE u0) : SimH K C ρ h (upd H D o) where
  len := S.len
  nd := S.nd
  trk := fun a m => by
    have : a ≠ D := fun z => (S.bar D b).1 (z ▸ m)
    rw [upd_ne this]; exact S.trk a m
  obj := fun n fp ob e1 e2 => ObOk.stp (Stp.poke b) (fun a m => by
    have : a ≠ D := fun z => (S.bar D b).1 (z ▸ flat_at e1 m)
    exact upd_ne this) (S.obj n fp ob e1 e2)
  frK := fun c u q nw => by
    have : c ≠ D := fun z => by rw [z, n0] at q; cases q
    rw [upd_ne this]; exact S.frK c u q nw
  own := S.own
  bar := fun c m => by
    refine ⟨(S.bar c m).1, ?_⟩
    by_cases hc : c = D
    · subst hc; exact ⟨o, upd_same⟩
    · rw [upd_ne hc]; exact (S.bar c m).2
  wtr := fun a m => by
    by_cases hc : a = D
    · subst hc; exact ⟨o, upd_same⟩
    · rw [upd_ne hc]; exact S.wtr a m
  pre := S.pre
  tab := (TabKp.put e0 nt).tabs S.tab
theorem Mo.unplus {D b : Addr} (m : Mo C ρ b) : Mo (C.plus D) ρ b := by
  rcases m with m | m
  · exact .inl m
  · exact .inr (.inl m)
theorem ObOk.fewer {M M' : Ms} {fp : List Addr} {o : Ob} (s : ∀ b, M' b → M b) (x : ObOk K H M fp o) : ObOk K H M' fp o := by
  cases o with
  | lst ds =>
    obtain ⟨a, vs, rfl, e, r⟩ := x
    exact ⟨a, vs, rfl, e, r.fewer s⟩
  | dic kvs =>
    obtain ⟨a, vs, rfl, e, q, r⟩ := x
    exact ⟨a, vs, rfl, e, q, r.fewer s⟩
  | lls dss =>
    obtain ⟨a, bs, rfl, e, l, w⟩ := x
    refine ⟨a, bs, rfl, e, l, fun i b ds e1 e2 => ?_⟩
    obtain ⟨vs, e3, r⟩ := w i b ds e1 e2
    exact ⟨vs, e3, r.fewer s⟩
  | dil dss ks =>
    obtain ⟨a, bs, rfl, e, u, l, w⟩ := x
    refine ⟨a, bs, rfl, e, u, l, fun i b ds e1 e2 => ?_⟩
    obtain ⟨vs, e3, r⟩ := w i b ds e1 e2
    exact ⟨vs, e3, r.fewer s⟩
  | gone => exact x
theorem SimH.unplus {D : Addr} (S : SimH K (C.plus D) ρ h H) : SimH K C ρ h H where
  len := S.len
  nd := S.nd
  trk := S.trk
  obj := fun n fp ob e1 e2 => ObOk.fewer (fun _ => Mo.unplus) (S.obj n fp ob e1 e2)
  frK := S.frK
  own := S.own
  bar := fun b m => S.bar b (.inl m)
  wtr := S.wtr
  pre := S.pre
  tab := S.tab
/-- the barred object becomes one of the def's own -/
theorem Mo.adopt {D b : Addr} : Mo C (ρ ++ [[D]]) b ↔ Mo (C.plus D) ρ b := by
  unfold Mo
  rw [flatten_snoc]
  constructor
  · rintro (m | m)
    · rcases List.mem_append.mp m with m | m
      · exact .inl m
      · exact .inr (.inr (by simpa using m))
    · exact .inr (.inl m)
  · rintro (m | m | m)
    · exact .inl (List.mem_append_left _ m)
    · exact .inr m
    · exact .inl (List.mem_append_right _ (by simp [m]))
theorem SimH.adopt {D : Addr} (S : SimH K (C.plus D) ρ h H) {ob : Ob} (n0 : C.H0 D = none) (nb : ¬ C.Bar D) (x : ObOk K H (Mo (C.plus D) ρ) [D] ob) : SimH K C (ρ ++ [[D]]) (h ++ [ob]) H where
  len := by rw [List.length_append, List.length_append, S.len]; rfl
  nd := by
    rw [flatten_snoc, List.nodup_append]
    refine ⟨S.nd, by simp, fun a m b m' z => ?_⟩
    have m'' : b = D := by simpa using m'
    subst m''
    subst z
    exact (S.bar a (.inr rfl)).1 m
  trk := fun a m => by
    rw [flatten_snoc] at m
    rcases List.mem_append.mp m with m | m
    · exact S.trk a m
    · have : a = D := by simpa using m
      subst this
      exact (S.bar a (.inr rfl)).2
  obj := fun n fp q e1 e2 => by
    rcases get_snoc e1 with e1 | ⟨hn, e1⟩
    · rcases get_snoc e2 with e2 | ⟨hn2, e2⟩
      · exact ObOk.fewer (fun _ => Mo.adopt.mp) (S.obj n fp q e1 e2)
      · have := (List.getElem?_eq_some_iff.mp e1).1
        have := S.len
        omega
    · subst e1
      rcases get_snoc e2 with e2 | ⟨hn2, e2⟩
      · have := (List.getElem?_eq_some_iff.mp e2).1
        have := S.len
        omega
      · subst e2
        exact ObOk.fewer (fun _ => Mo.adopt.mp) x
  frK := S.frK
  own := fun a m => by
    rw [flatten_snoc] at m
    rcases List.mem_append.mp m with m | m
    · exact S.own a m
    · have : a = D := by simpa using m
      subst this
      exact .inr n0
  bar := fun b m => by
    refine ⟨fun z => ?_, (S.bar b (.inl m)).2⟩
    rw [flatten_snoc] at z
    rcases List.mem_append.mp z with z | z
    · exact (S.bar b (.inl m)).1 z
    · have : b = D := by simpa using z
      subst this
      exact nb m
  wtr := S.wtr
  pre := fun n fp q => by
    have e' := S.pre n fp q
    rw [List.getElem?_append_left (List.getElem?_eq_some_iff.mp e').1]; exact e'
  tab := S.tab
theorem SimH.wlen (S : SimH K C ρ h H) : C.W.length ≤ h.length := by
  cases q : C.W.length with
  | zero => exact Nat.zero_le _
  | succ m =>
    have hm : m < C.W.length := by omega
    have e' := S.pre m _ (List.getElem?_eq_getElem hm)
    have := (List.getElem?_eq_some_iff.mp e').1
    have := S.len
    omega
/-- only the first n objects are kept -/
theorem flatten_take_mem {n : Nat} {a : Addr} (m : a ∈ (ρ.take n).flatten) : a ∈ ρ.flatten := by
  obtain ⟨fp, h1, h2⟩ := List.mem_flatten.mp m
  exact List.mem_flatten.mpr ⟨fp, List.mem_of_mem_take h1, h2⟩
theorem Mo.take {n : Nat} {b : Addr} (m : Mo C (ρ.take n) b) : Mo C ρ b := by
  rcases m with m | m
  · exact .inl (flatten_take_mem m)
  · exact .inr m
theorem get_take {α : Type} {l : List α} {n i : Nat} {x : α} (e : (l.take n)[i]? = some x) : l[i]? = some x := by
  rw [List.getElem?_take] at e
  split at e
  · exact e
  · cases e
theorem SimH.take (S : SimH K C ρ h H) (n : Nat) (hn : C.W.length ≤ n) : SimH K C (ρ.take n) (h.take n) H where
  len := by rw [List.length_take, List.length_take, S.len]
  nd := by
    have e : ρ.flatten = (ρ.take n).flatten ++ (ρ.drop n).flatten := by rw [← List.flatten_append, List.take_append_drop]
    have q := S.nd
    rw [e] at q
    exact (List.nodup_append.mp q).1
  trk := fun a m => S.trk a (flatten_take_mem m)
  obj := fun k fp o e1 e2 => ObOk.fewer (fun _ => Mo.take) (S.obj k fp o (get_take e1) (get_take e2))
  frK := S.frK
  own := fun a m => S.own a (flatten_take_mem m)
  bar := fun b m => ⟨fun z => (S.bar b m).1 (flatten_take_mem z), (S.bar b m).2⟩
  wtr := S.wtr
  pre := fun k fp q => by
    have e' := S.pre k fp q
    have := (List.getElem?_eq_some_iff.mp q).1
    rw [List.getElem?_take, if_pos (by omega)]; exact e'
  tab := S.tab
theorem Stp.take (n : Nat) : Stp (Mo C ρ) H (Mo C (ρ.take n)) H := ⟨keepE fun _ _ e _ => e, fun _ m => .inl (Mo.take m)⟩
end
end FL

namespace FL
open PySem PySem.Spec PyProof.Rows L2

/-- how an exception lies -/
def XnOk (K : PySem.W.Frag) (mg : Str → Option Value) (H : Hp) (M : Ms) (x : Exn) (cls : Value) (d : Option Addr) : Prop :=
  mg x.cls = some cls ∧ ((x.fs = [] ∧ d = none) ∨ x.fs ≠ [] ∧ ∃ da vs, d = some da ∧ H da = some (.xd vs) ∧ vs.map (·.1) = x.fs.map (·.1) ∧ RpAll K H M (vs.map (·.2)) (x.fs.map (·.2)))
/-- what is to be shown of an outcome -/
def Po {α β : Type} (K : PySem.W.Frag) (mg : Str → Option Value) (C : Fc) (Wx : WX) (σ : St) (ρ : Fps) (H : Hp) (rel : Fps → Hp → β → α → Prop) (r : Rz α) (Q : β → Hp → Prop) : Prop := match r with
  | .ok a h' => ∀ (ρ' : Fps) (b : β) (H' : Hp), Ex C ρ H ρ' H' → SimH K C ρ' h' H' → rel ρ' H' b a → Q b H'
  | .err x h' => ∀ (ρ' : Fps) (H' : Hp) (cls : Value) (d : Option Addr), Ex C ρ H ρ' H' → SimH K C ρ' h' H' → XnOk K mg H' (Mo C ρ') x cls d → Wx cls d σ H'
  | .bad => False
def rd {α β : Type} (K : PySem.W.Frag) (mg : Str → Option Value) (C : Fc) (Wx : WX) (rel : Fps → Hp → β → α → Prop) (f : En → Hs → Rz α) : St → Hp → (β → Hp → Prop) → Prop := fun σ H Q =>
  ∃ (ρ : Fps) (env : En) (h : Hs), SimH K C ρ h H ∧ EnvOk K C ρ H env σ ∧ Po K mg C Wx σ ρ H rel (f env h) Q
abbrev relE (K : PySem.W.Frag) (C : Fc) : Fps → Hp → V → Sl → Prop := fun ρ H v s => SlV K C ρ H v s
abbrev relA (K : PySem.W.Frag) (C : Fc) : Fps → Hp → List V → List Sl → Prop := fun ρ H v s => SlVs K C ρ H v s
abbrev relT : Fps → Hp → Bool → Bool → Prop := fun _ _ b c => b = c
abbrev relO : Fps → Hp → Option Int → Option Int → Prop := fun _ _ b c => b = c
abbrev FE (X : Cx) (C : Fc) (Wx : WX) (e : Expr) (f : Ev) : Prop := PE X e (rd X.K X.mg C Wx (relE X.K C) f)
abbrev FT (X : Cx) (C : Fc) (Wx : WX) (e : Expr) (f : Tv) : Prop := PT X e (rd X.K X.mg C Wx relT f)
abbrev FW (X : Cx) (C : Fc) (Wx : WX) (e : Expr) (f : Tv) : Prop := PW X e (rd X.K X.mg C Wx relT f)
abbrev FA (X : Cx) (C : Fc) (Wx : WX) (es : List Expr) (f : Av) : Prop := PA X es (rd X.K X.mg C Wx (relA X.K C) f)
abbrev FO (X : Cx) (C : Fc) (Wx : WX) (e : Option Expr) (f : En → Hs → Rz (Option Int)) : Prop := PO X e (rd X.K X.mg C Wx relO f)

theorem PE.imp {X : Cx} {e : Expr} {t t' : TE} (h : PE X e t) (i : ∀ σ H Q, t' σ H Q → t σ H Q) : PE X e t' := ⟨fun pins s σ H Q I q => h.run pins s σ H Q I (i σ H Q q)⟩
theorem PT.imp {X : Cx} {e : Expr} {t t' : TT} (h : PT X e t) (i : ∀ σ H Q, t' σ H Q → t σ H Q) : PT X e t' := ⟨fun pins s σ H Q I q => h.run pins s σ H Q I (i σ H Q q)⟩
theorem PW.imp {X : Cx} {e : Expr} {t t' : TT} (h : PW X e t) (i : ∀ σ H Q, t' σ H Q → t σ H Q) : PW X e t' := ⟨fun wh pins s σ H Q I q => h.run wh pins s σ H Q I (i σ H Q q)⟩
theorem PA.imp {X : Cx} {e : List Expr} {t t' : TA} (h : PA X e t) (i : ∀ σ H Q, t' σ H Q → t σ H Q) : PA X e t' := ⟨fun pos pins s σ H Q I q => h.run pos pins s σ H Q I (i σ H Q q)⟩
theorem PO.imp {X : Cx} {e : Option Expr} {t t' : TO} (h : PO X e t) (i : ∀ σ H Q, t' σ H Q → t σ H Q) : PO X e t' := ⟨fun pins s σ H Q I q => h.run pins s σ H Q I (i σ H Q q)⟩
theorem PS.imp {X : Cx} {e : Stmt} {t t' : TS} (h : PS X e t) (i : ∀ D σ H, t' D σ H → t D σ H) : PS X e t' := ⟨fun pins s σ H D I q => h.run pins s σ H D I (i D σ H q)⟩
theorem PSs.imp {X : Cx} {e : List Stmt} {t t' : TS} (h : PSs X e t) (i : ∀ D σ H, t' D σ H → t D σ H) : PSs X e t' := ⟨fun pins s σ H D I q => h.run pins s σ H D I (i D σ H q)⟩

section
variable {K : PySem.W.Frag} {mg : Str → Option Value} {C : Fc} {Wx : WX} {σ : St} {H : Hp}
/-- an outcome behind a step -/
theorem Po.ex {α β : Type} {ρ ρ1 : Fps} {H1 : Hp} {rel : Fps → Hp → β → α → Prop} {r : Rz α} {Q : β → Hp → Prop} (x : Ex C ρ H ρ1 H1) (p : Po K mg C Wx σ ρ H rel r Q) : Po K mg C Wx σ ρ1 H1 rel r Q := by
  cases r with
  | ok a h' => exact fun ρ' b H' x' S r => p ρ' b H' (x.trans x') S r
  | err y h' => exact fun ρ' H' cls d s S q => p ρ' H' cls d (x.trans s) S q
  | bad => exact p
/-- THE BIND: a first part, then the rest -/
theorem rd.bind {α β γ δ : Type} {r1 : Fps → Hp → β → α → Prop} {r2 : Fps → Hp → δ → γ → Prop} {f : En → Hs → Rz α} {g : α → En → Hs → Rz γ} {Q : δ → Hp → Prop}
    (p : rd K mg C Wx r2 (fun env h => (f env h).bind fun a h => g a env h) σ H Q) {R : β → Hp → Prop}
    (k : ∀ ρ1 env h1 a b H1, SimH K C ρ1 h1 H1 → EnvOk K C ρ1 H1 env σ → r1 ρ1 H1 b a → Po K mg C Wx σ ρ1 H1 r2 (g a env h1) Q → R b H1) : rd K mg C Wx r1 f σ H R := by
  obtain ⟨ρ, env, h, S, E, P⟩ := p
  refine ⟨ρ, env, h, S, E, ?_⟩
  cases e : f env h with
  | ok a h1 =>
    intro ρ1 b H1 x S1 q
    have P' : Po K mg C Wx σ ρ H r2 ((f env h).bind fun a h => g a env h) Q := P
    rw [e] at P'
    exact k ρ1 env h1 a b H1 S1 (E.ex x) q (P'.ex x)
  | err y h1 =>
    have P' : Po K mg C Wx σ ρ H r2 ((f env h).bind fun a h => g a env h) Q := P
    rw [e] at P'
    exact P'
  | bad =>
    have P' : Po K mg C Wx σ ρ H r2 ((f env h).bind fun a h => g a env h) Q := P
    rw [e] at P'
    exact P'
theorem Po.bind {α β γ δ : Type} {r1 : Fps → Hp → β → α → Prop} {r2 : Fps → Hp → δ → γ → Prop} {ρ : Fps} {r : Rz α} {g : α → Hs → Rz γ} {Q : δ → Hp → Prop} {R : β → Hp → Prop} (P : Po K mg C Wx σ ρ H r2 (r.bind g) Q)
    (k : ∀ ρ1 h1 a b H1, r = .ok a h1 → Ex C ρ H ρ1 H1 → SimH K C ρ1 h1 H1 → r1 ρ1 H1 b a → Po K mg C Wx σ ρ1 H1 r2 (g a h1) Q → R b H1) : Po K mg C Wx σ ρ H r1 r R := by
  cases r with
  | ok a h1 => exact fun ρ1 b H1 x S1 q => k ρ1 h1 a b H1 rfl x S1 q (Po.ex (r := g a h1) x P)
  | err y h1 => exact P
  | bad => exact P
theorem rd.of {α β : Type} {rel : Fps → Hp → β → α → Prop} {f : En → Hs → Rz α} {Q : β → Hp → Prop} {ρ : Fps} {env : En} {h : Hs} (S : SimH K C ρ h H) (E : EnvOk K C ρ H env σ) (p : Po K mg C Wx σ ρ H rel (f env h) Q) : rd K mg C Wx rel f σ H Q := ⟨ρ, env, h, S, E, p⟩
end

/-! ### names, constants -/
def eVar (i : Nat) : Ev := fun env h => match env[i]? with
  | some (some s) => .ok s h
  | _ => .bad
def eK (d : PyData) : Ev := fun _ h => .ok (.val d) h
section
variable {X : Cx} {C : Fc} {Wx : WX}
theorem fe_var (i : Nat) {x : Str} {pos : Pos} (hN : X.N[i]? = some x := by rfl) (hv : Vis X.env.scope x := by first | exact Or.inl rfl | exact Or.inr (Or.inl rfl) | exact Or.inr (Or.inr rfl)) (hd : (x == ("__debug__" : Str)) = false := by decide)
    (hcd : (x == ("__classdict__" : Str)) = false := by decide) : FE X C Wx (.Name x pos) (eVar i) := by
  refine PE.imp (pe_var hN hv hd hcd) fun σ H Q ⟨ρ, env, h, S, E, P⟩ => ?_
  have P' : Po X.K X.mg C Wx σ ρ H (relE X.K C) (eVar i env h) Q := P
  unfold eVar at P'
  split at P'
  · rename_i s e
    obtain ⟨v, e1, r⟩ := E.at_ i s e
    exact ⟨v, e1, P' ρ v H (Ex.refl _ _ _) S r⟩
  · exact P'.elim
theorem fe_const {e : Expr} {v : V} {d : PyData} (h : PE X e (tC v)) (r : ∀ H M, Rp X.K H M v d) : FE X C Wx e (eK d) :=
  PE.imp h fun σ H Q ⟨ρ, env, hh, S, E, P⟩ => P ρ v H (Ex.refl _ _ _) S (r _ _)
theorem fe_int {i j pos} : FE X C Wx (.Constant (.int i) j pos) (eK (.int i)) := fe_const pe_int fun _ _ => .int i
theorem fe_bl {b j pos} : FE X C Wx (.Constant (.bool b) j pos) (eK (.bool b)) := fe_const pe_bl fun _ _ => .bl b
theorem fe_non {j pos} : FE X C Wx (.Constant .none j pos) (eK .none) := fe_const pe_non fun _ _ => .non
theorem fe_str {x j pos} : FE X C Wx (.Constant (.str x) j pos) (eK (.str x)) := fe_const pe_str fun _ _ => .str x
/-- a module's constant that is an int -/
theorem fe_globI {x : Str} {i : Int} {pos : Pos} (hg : Gl X x) (hm : ∃ t, X.mg x = some (.int i t)) (hd : (x == ("__debug__" : Str)) = false := by decide) : FE X C Wx (.Name x pos) (eK (.int i)) := by
  obtain ⟨t, hm⟩ := hm
  exact fe_const (v := .int i) (pe_glob hg hm ⟨t, rfl⟩ hd) fun _ _ => .int i
theorem fe_globS {x : Str} {y : Str} {pos : Pos} (hg : Gl X x) (hm : ∃ t, X.mg x = some (.str y t)) (hd : (x == ("__debug__" : Str)) = false := by decide) : FE X C Wx (.Name x pos) (eK (.str y)) := by
  obtain ⟨t, hm⟩ := hm
  exact fe_const (v := .str y) (pe_glob hg hm ⟨t, rfl⟩ hd) fun _ _ => .str y
end

/-! ### operators -/
abbrev G2 := Sl → Sl → Hs → Option PyData
abbrev GL := List Sl → Hs → Option PyData
def Rz.give (o : Option PyData) (h : Hs) : Rz Sl := match o with
  | some d => .ok (.val d) h
  | none => .bad
def cBin (g : G2) (f1 f2 : Ev) : Ev := fun env h => (f1 env h).bind fun s h => (f2 env h).bind fun t h => .give (g s t h) h
def cUn (g : Sl → Hs → Option PyData) (f : Ev) : Ev := fun env h => (f env h).bind fun s h => .give (g s h) h
def cCB (g : GL) (f : Av) : Ev := fun env h => (f env h).bind fun ss h => .give (g ss h) h
def rd2 (K : PySem.W.Frag) (C : Fc) (g : G2) : R2 := fun x y H Q => ∃ ρ h s t d, SimH K C ρ h H ∧ SlV K C ρ H x s ∧ SlV K C ρ H y t ∧ g s t h = some d ∧
  ∀ v H', Ex C ρ H ρ H' → SimH K C ρ h H' → Rp K H' (Mo C ρ) v d → Q v H'
def rdC (K : PySem.W.Frag) (C : Fc) (g : GL) : List V → Hp → VK → Prop := fun xs H Q => ∃ ρ h ss d, SimH K C ρ h H ∧ SlVs K C ρ H xs ss ∧ g ss h = some d ∧
  ∀ v H', Ex C ρ H ρ H' → SimH K C ρ h H' → Rp K H' (Mo C ρ) v d → Q v H'
def rd1 (K : PySem.W.Frag) (C : Fc) (g : Sl → Hs → Option PyData) : V → Hp → VK → Prop := fun x H Q => ∃ ρ h s d, SimH K C ρ h H ∧ SlV K C ρ H x s ∧ g s h = some d ∧
  ∀ v H', Ex C ρ H ρ H' → SimH K C ρ h H' → Rp K H' (Mo C ρ) v d → Q v H'
section
variable {K : PySem.W.Frag} {mg : Str → Option Value} {C : Fc} {Wx : WX} {σ : St} {H : Hp}
theorem Po.given {ρ : Fps} {h : Hs} {o : Option PyData} {Q : VK} (p : Po K mg C Wx σ ρ H (relE K C) (.give o h) Q) : ∃ d, o = some d ∧ ∀ v H', Ex C ρ H ρ H' → SimH K C ρ h H' → Rp K H' (Mo C ρ) v d → Q v H' := by
  cases o with
  | none => exact p.elim
  | some d => exact ⟨d, rfl, fun v H' x S r => p ρ v H' x S r⟩
theorem rd.bin {g : G2} {f1 f2 : Ev} {Q : VK} (p : rd K mg C Wx (relE K C) (cBin g f1 f2) σ H Q) :
    rd K mg C Wx (relE K C) f1 σ H fun x H1 => rd K mg C Wx (relE K C) f2 σ H1 fun y H2 => rd2 K C g x y H2 Q := by
  refine rd.bind (f := f1) (g := fun s env h => (f2 env h).bind fun t h => .give (g s t h) h) p fun ρ1 env h1 s x H1 S1 E1 r1 P1 => ?_
  refine rd.of (env := env) (h := h1) S1 E1 ?_
  cases e : f2 env h1 with
  | ok t h2 =>
    intro ρ2 y H2 x2 S2 r2
    rw [e] at P1
    obtain ⟨d, e3, q⟩ := (Po.ex x2 P1).given
    exact ⟨ρ2, h2, s, t, d, S2, SlV.ex x2 r1, r2, e3, q⟩
  | err y h2 => rw [e] at P1; exact P1
  | bad => rw [e] at P1; exact P1
theorem rd.un {g : Sl → Hs → Option PyData} {f : Ev} {Q : VK} (p : rd K mg C Wx (relE K C) (cUn g f) σ H Q) : rd K mg C Wx (relE K C) f σ H fun x H1 => rd1 K C g x H1 Q :=
  rd.bind (f := f) (g := fun s env h => .give (g s h) h) p fun ρ1 env h1 s x H1 S1 E1 r1 P1 =>
    let ⟨d, e, q⟩ := P1.given
    ⟨ρ1, h1, s, d, S1, r1, e, q⟩
theorem rd.cb {g : GL} {f : Av} {Q : VK} (p : rd K mg C Wx (relE K C) (cCB g f) σ H Q) : rd K mg C Wx (relA K C) f σ H fun x H1 => rdC K C g x H1 Q :=
  rd.bind (f := f) (g := fun s env h => .give (g s h) h) p fun ρ1 env h1 s x H1 S1 E1 r1 P1 =>
    let ⟨d, e, q⟩ := P1.given
    ⟨ρ1, h1, s, d, S1, r1, e, q⟩
end
theorem OpR.imp {X : Cx} {f : Value → Value → Sem Value} {r r' : R2} (h : OpR X f r) (i : ∀ x y H Q, r' x y H Q → r x y H Q) : OpR X f r' := fun pins s σ H x y v u Q I rx ry q => h pins s σ H x y v u Q I rx ry (i _ _ _ _ q)
theorem UnR.imp {X : Cx} {f : Value → Sem Value} {r r' : V → Hp → VK → Prop} (h : UnR X f r) (i : ∀ x H Q, r' x H Q → r x H Q) : UnR X f r' := fun pins s σ H x v Q I rx q => h pins s σ H x v Q I rx (i _ _ _ q)
theorem CallR.imp {X : Cx} {f : Value} {r r' : List V → Hp → VK → Prop} (h : CallR X f r) (i : ∀ x H Q, r' x H Q → r x H Q) : CallR X f r' := fun pins s σ H x v Q I rx q => h pins s σ H x v Q I rx (i _ _ _ q)
theorem IxR.imp {X : Cx} {r r' : R2} (h : IxR X r) (i : ∀ x y H Q, r' x y H Q → r x y H Q) : IxR X r' := fun va sl pins s σ H x y v u Q I rx ry q hs => h va sl pins s σ H x y v u Q I rx ry (i _ _ _ _ q) hs
/-- two rules for one primitive -/
theorem OpR.two {X : Cx} {C : Fc} {f : Value → Value → Sem Value} {g g1 g2 : G2} (h1 : OpR X f (rd2 X.K C g1)) (h2 : OpR X f (rd2 X.K C g2)) (i : ∀ s t h, g s t h = none ∨ g s t h = g1 s t h ∨ g s t h = g2 s t h) : OpR X f (rd2 X.K C g) := by
  intro pins s σ H x y v u Q I rx ry q
  obtain ⟨ρ, h, a, b, d, S, r1, r2, e, k⟩ := q
  rcases i a b h with z | z | z
  · rw [z] at e; cases e
  · exact h1 pins s σ H x y v u Q I rx ry ⟨ρ, h, a, b, d, S, r1, r2, z ▸ e, k⟩
  · exact h2 pins s σ H x y v u Q I rx ry ⟨ρ, h, a, b, d, S, r1, r2, z ▸ e, k⟩
section
variable {X : Cx} {C : Fc} {Wx : WX} {a b c : Expr} {f1 f2 f3 : Ev} {pos : Pos}
theorem fe_op {op : Operator} {g : G2} (ho : OpR X (binaryOp op) (rd2 X.K C g)) (ha : FE X C Wx a f1) (hb : FE X C Wx b f2) : FE X C Wx (.BinOp a op b pos) (cBin g f1 f2) := PE.imp (pe_op ho ha hb) fun _ _ _ => rd.bin
theorem fe_cmp {op : CmpOp} {g : G2} (ho : OpR X (compareOp op) (rd2 X.K C g)) (ha : FE X C Wx a f1) (hb : FE X C Wx b f2) (hm : behindInMarks op b = false) : FE X C Wx (.Compare a [op] [b] pos) (cBin g f1 f2) := PE.imp (pe_cmpR ho ha hb hm) fun _ _ _ => rd.bin
theorem fe_un {op : UnaryOp} {g : Sl → Hs → Option PyData} (ho : UnR X (unaryOp op) (rd1 X.K C g)) (ha : FE X C Wx a f1) : FE X C Wx (.UnaryOp op a pos) (cUn g f1) := PE.imp (pe_un ho ha) fun _ _ _ => rd.un
theorem fe_ix {g : G2} (ho : IxR X (rd2 X.K C g)) (ha : FE X C Wx a f1) (hb : FE X C Wx b f2) (hs : PlainIx b) : FE X C Wx (.Subscript a b pos) (cBin g f1 f2) := PE.imp (pe_ix ho ha hb hs) fun _ _ _ => rd.bin
end

/-! ### tests -/
def Rz.truth (s : Sl) (h : Hs) : Rz Bool := match s with
  | .val (.bool b) => .ok b h
  | _ => .bad
/-- a value that is a truth, as a test -/
def tV (f : Ev) : Tv := fun env h => (f env h).bind fun s h => .truth s h
def tNo (f : Tv) : Tv := fun env h => (f env h).bind fun b h => .ok (!b) h
def tAn (f g : Tv) : Tv := fun env h => (f env h).bind fun b h => if b = true then g env h else .ok false h
def tOr_ (f g : Tv) : Tv := fun env h => (f env h).bind fun b h => if b = true then .ok true h else g env h
section
variable {K : PySem.W.Frag} {mg : Str → Option Value} {C : Fc} {Wx : WX} {σ : St} {H : Hp}
theorem Po.truth {ρ : Fps} {h : Hs} {s : Sl} {v : V} {Q : Bool → Hp → Prop} (S : SimH K C ρ h H) (r : SlV K C ρ H v s) (p : Po K mg C Wx σ ρ H relT (.truth s h) Q) : ∃ k, v = .bl k ∧ Q k H := by
  cases s with
  | loc n => exact p.elim
  | inn n i => exact p.elim
  | exn x => exact p.elim
  | val d =>
    cases d with
    | bool b =>
      cases (show Rp K H (Mo C ρ) v (.bool b) from r)
      exact ⟨b, rfl, p ρ b H (Ex.refl _ _ _) S rfl⟩
    | _ => exact p.elim
theorem rd.tv {f : Ev} {Q : Bool → Hp → Prop} (p : rd K mg C Wx relT (tV f) σ H Q) : rd K mg C Wx (relE K C) f σ H fun x H1 => ∃ k, x = .bl k ∧ Q k H1 :=
  rd.bind (f := f) (g := fun s env h => .truth s h) p fun ρ1 env h1 s x H1 S1 E1 r1 P1 => P1.truth S1 r1
end
section
variable {X : Cx} {C : Fc} {Wx : WX} {a b c : Expr} {f1 f2 f3 : Ev} {g1 g2 : Tv} {pos : Pos} {rest : List Expr}
theorem ft_cmp {op : CmpOp} {g : G2} (ho : OpR X (compareOp op) (rd2 X.K C g)) (ha : FE X C Wx a f1) (hb : FE X C Wx b f2) (hm : behindInMarks op b = false) : FT X C Wx (.Compare a [op] [b] pos) (tV (cBin g f1 f2)) :=
  PT.imp (pt_cmpR ho ha hb hm) fun _ _ _ p => rd.bin (mg := X.mg) (Wx := Wx) (by
    obtain ⟨ρ, env, h, S, E, P⟩ := rd.tv p
    exact ⟨ρ, env, h, S, E, P⟩)
theorem ft_val (ha : FE X C Wx a f1) (he : ∀ whole, isTrue a X.env whole = (do let v ← whole; standAt a.pos; holding [v] (truthy v)) := by intro _; rfl) : FT X C Wx a (tV f1) := PT.imp (pt_val ha he) fun _ _ _ => rd.tv
theorem ft_not (ha : FT X C Wx a g1) : FT X C Wx (.UnaryOp .Not a pos) (tNo g1) := PT.imp (pt_not ha) fun σ H Q p =>
  rd.bind (f := g1) (g := fun s env h => .ok (!s) h) p fun ρ1 env h1 s x H1 S1 E1 r1 P1 => by
    have e : x = s := r1
    subst e
    exact P1 ρ1 (!x) H1 (Ex.refl _ _ _) S1 rfl
theorem fw_and1 (ha : FT X C Wx a g1) : FW X C Wx (.BoolOp .And [a] pos) g1 := pw_and1 ha
theorem fw_or1 (ha : FT X C Wx a g1) : FW X C Wx (.BoolOp .Or [a] pos) g1 := pw_or1 ha
theorem fw_and (ha : FT X C Wx a g1) (hb : FW X C Wx (.BoolOp .And (b :: rest) pos) g2) : FW X C Wx (.BoolOp .And (a :: b :: rest) pos) (tAn g1 g2) := PW.imp (pw_and ha hb) fun σ H Q p =>
  rd.bind (f := g1) (g := fun s env h => if s = true then g2 env h else .ok false h) p fun ρ1 env h1 s x H1 S1 E1 r1 P1 => by
    have e : x = s := r1
    subst e
    cases x with
    | true => exact rd.of S1 E1 P1
    | false => exact P1 ρ1 false H1 (Ex.refl _ _ _) S1 rfl
theorem fw_or (ha : FT X C Wx a g1) (hb : FW X C Wx (.BoolOp .Or (b :: rest) pos) g2) : FW X C Wx (.BoolOp .Or (a :: b :: rest) pos) (tOr_ g1 g2) := PW.imp (pw_or ha hb) fun σ H Q p =>
  rd.bind (f := g1) (g := fun s env h => if s = true then .ok true h else g2 env h) p fun ρ1 env h1 s x H1 S1 E1 r1 P1 => by
    have e : x = s := r1
    subst e
    cases x with
    | false => exact rd.of S1 E1 P1
    | true => exact P1 ρ1 true H1 (Ex.refl _ _ _) S1 rfl
theorem ft_w (h : FW X C Wx a g1) : FT X C Wx a g1 := h.pt
/-! .. as values -/
def eAnd (f g : Ev) : Ev := fun env h => (f env h).bind fun s h => match s with
  | .val (.bool true) => g env h
  | .val (.bool false) => .ok (.val (.bool false)) h
  | _ => .bad
def eOr (f g : Ev) : Ev := fun env h => (f env h).bind fun s h => match s with
  | .val (.bool true) => .ok (.val (.bool true)) h
  | .val (.bool false) => g env h
  | _ => .bad
def eNot (f : Ev) : Ev := fun env h => (f env h).bind fun s h => match s with
  | .val (.bool b) => .ok (.val (.bool (!b))) h
  | _ => .bad
theorem fe_one {op} (h : FE X C Wx a f1) : FE X C Wx (.BoolOp op [a] pos) f1 := pe_one h
theorem fe_and (ha : FE X C Wx a f1) (hb : FE X C Wx (.BoolOp .And (b :: rest) pos) f2) : FE X C Wx (.BoolOp .And (a :: b :: rest) pos) (eAnd f1 f2) := PE.imp (pe_and ha hb) fun σ H Q p => by
  refine rd.bind (f := f1) (g := fun s env h => match s with
    | .val (.bool true) => f2 env h
    | .val (.bool false) => .ok (.val (.bool false)) h
    | _ => .bad) p fun ρ1 env h1 s x H1 S1 E1 r1 P1 => ?_
  cases s with
  | loc n => exact P1.elim
  | inn n i => exact P1.elim
  | exn x => exact P1.elim
  | val d =>
    cases d with
    | bool k =>
      cases (show Rp X.K H1 (Mo C ρ1) x (.bool k) from r1)
      refine ⟨k, rfl, ?_⟩
      cases k with
      | true => exact rd.of S1 E1 P1
      | false => exact P1 ρ1 (.bl false) H1 (Ex.refl _ _ _) S1 (Rp.bl false)
    | _ => exact P1.elim
theorem fe_or (ha : FE X C Wx a f1) (hb : FE X C Wx (.BoolOp .Or (b :: rest) pos) f2) : FE X C Wx (.BoolOp .Or (a :: b :: rest) pos) (eOr f1 f2) := PE.imp (pe_or ha hb) fun σ H Q p => by
  refine rd.bind (f := f1) (g := fun s env h => match s with
    | .val (.bool true) => .ok (.val (.bool true)) h
    | .val (.bool false) => f2 env h
    | _ => .bad) p fun ρ1 env h1 s x H1 S1 E1 r1 P1 => ?_
  cases s with
  | loc n => exact P1.elim
  | inn n i => exact P1.elim
  | exn x => exact P1.elim
  | val d =>
    cases d with
    | bool k =>
      cases (show Rp X.K H1 (Mo C ρ1) x (.bool k) from r1)
      refine ⟨k, rfl, ?_⟩
      cases k with
      | false => exact rd.of S1 E1 P1
      | true => exact P1 ρ1 (.bl true) H1 (Ex.refl _ _ _) S1 (Rp.bl true)
    | _ => exact P1.elim
theorem fe_not (ha : FE X C Wx a f1) : FE X C Wx (.UnaryOp .Not a pos) (eNot f1) := PE.imp (pe_not ha) fun σ H Q p => by
  refine rd.bind (f := f1) (g := fun s env h => match s with
    | .val (.bool b) => (.ok (.val (.bool (!b))) h : Rz Sl)
    | _ => .bad) p fun ρ1 env h1 s x H1 S1 E1 r1 P1 => ?_
  cases s with
  | loc n => exact P1.elim
  | inn n i => exact P1.elim
  | exn x => exact P1.elim
  | val d =>
    cases d with
    | bool k =>
      cases (show Rp X.K H1 (Mo C ρ1) x (.bool k) from r1)
      exact ⟨k, rfl, P1 ρ1 (.bl (!k)) H1 (Ex.refl _ _ _) S1 (Rp.bl (!k))⟩
    | _ => exact P1.elim
def eIf (c : Tv) (f g : Ev) : Ev := fun env h => (c env h).bind fun b h => if b = true then f env h else g env h
theorem fe_if (hc : FT X C Wx c g1) (ha : FE X C Wx a f1) (hb : FE X C Wx b f2) : FE X C Wx (.IfExp c a b pos) (eIf g1 f1 f2) := PE.imp (pe_ifExp hc ha hb) fun σ H Q p =>
  rd.bind (f := g1) (g := fun s env h => if s = true then f1 env h else f2 env h) p fun ρ1 env h1 s x H1 S1 E1 r1 P1 => by
    have e : x = s := r1
    subst e
    cases x with
    | true => exact rd.of S1 E1 P1
    | false => exact rd.of S1 E1 P1
/-! ### a op1 b op2 c -/
def eChain (g1 g2 : G2) (f1 f2 f3 : Ev) : Ev := fun env h => (f1 env h).bind fun s h => (f2 env h).bind fun t h => match g1 s t h with
  | some (.bool true) => (f3 env h).bind fun u h => .give (g2 t u h) h
  | some (.bool false) => .ok (.val (.bool false)) h
  | _ => .bad
theorem rd.chain {K : PySem.W.Frag} {mg : Str → Option Value} {C : Fc} {Wx : WX} {σ : St} {H : Hp} {g1 g2 : G2} {f1 f2 f3 : Ev} {Q : VK} (p : rd K mg C Wx (relE K C) (eChain g1 g2 f1 f2 f3) σ H Q) :
    tChain (rd2 K C g1) (rd2 K C g2) (rd K mg C Wx (relE K C) f1) (rd K mg C Wx (relE K C) f2) (rd K mg C Wx (relE K C) f3) σ H Q := by
  refine rd.bind (f := f1) (g := fun s env h => (f2 env h).bind fun t h => match g1 s t h with
    | some (.bool true) => (f3 env h).bind fun u h => .give (g2 t u h) h
    | some (.bool false) => .ok (.val (.bool false)) h
    | _ => .bad) p fun ρ1 env h1 s x H1 S1 E1 r1 P1 => ?_
  refine rd.of (env := env) (h := h1) S1 E1 ?_
  cases e : f2 env h1 with
  | err y h2 => rw [e] at P1; exact P1
  | bad => rw [e] at P1; exact P1
  | ok t h2 =>
    intro ρ2 y H2 x2 S2 r2
    rw [e] at P1
    have P2 := Po.ex x2 P1
    have P3 : Po K mg C Wx σ ρ2 H2 (relE K C) (match g1 s t h2 with
      | some (.bool true) => (f3 env h2).bind fun u h => .give (g2 t u h) h
      | some (.bool false) => .ok (.val (.bool false)) h2
      | _ => .bad) Q := P2
    cases e3 : g1 s t h2 with
    | none => rw [e3] at P3; exact P3.elim
    | some d =>
      rw [e3] at P3
      cases d with
      | bool k =>
        refine ⟨ρ2, h2, s, t, .bool k, S2, SlV.ex x2 r1, r2, e3, fun v H3 x3 S3 r3 => ?_⟩
        cases r3
        refine ⟨k, rfl, ?_⟩
        cases k with
        | false =>
          rw [if_neg Bool.false_ne_true]
          exact P3 ρ2 (.bl false) H3 x3 S3 (Rp.bl false)
        | true =>
          rw [if_pos rfl]
          refine rd.of (env := env) (h := h2) S3 ((E1.ex x2).ex x3) ?_
          have P4 : Po K mg C Wx σ ρ2 H2 (relE K C) ((f3 env h2).bind fun u h => .give (g2 t u h) h) Q := P3
          cases e4 : f3 env h2 with
          | err z h3 => rw [e4] at P4; exact Po.ex (r := Rz.err z h3) x3 P4
          | bad => rw [e4] at P4; exact P4
          | ok u h3 =>
            rw [e4] at P4
            intro ρ4 w H4 x4 S4 r4
            obtain ⟨d, e5, q⟩ := (Po.ex (x3.trans x4) P4).given
            exact ⟨ρ4, h3, t, u, d, S4, SlV.ex (x3.trans x4) r2, r4, e5, q⟩
      | _ => exact P3.elim
theorem fe_chain {op op' : CmpOp} {r1 r2 : G2} (ho : OpR X (compareOp op) (rd2 X.K C r1)) (ho' : OpR X (compareOp op') (rd2 X.K C r2)) (ha : FE X C Wx a f1) (hb : FE X C Wx b f2) (hc : FE X C Wx c f3)
    (hm : lastMarks [op, op'] [b, c] = false := by with_unfolding_all rfl) : FE X C Wx (.Compare a [op, op'] [b, c] pos) (eChain r1 r2 f1 f2 f3) := PE.imp (pe_chain ho ho' ha hb hc hm) fun _ _ _ => rd.chain
theorem ft_chain {op op' : CmpOp} {r1 r2 : G2} (ho : OpR X (compareOp op) (rd2 X.K C r1)) (ho' : OpR X (compareOp op') (rd2 X.K C r2)) (ha : FE X C Wx a f1) (hb : FE X C Wx b f2) (hc : FE X C Wx c f3)
    (hm : lastMarks [op, op'] [b, c] = false := by with_unfolding_all rfl) : FT X C Wx (.Compare a [op, op'] [b, c] pos) (tV (eChain r1 r2 f1 f2 f3)) := PT.imp (pt_chain ho ho' ha hb hc hm) fun _ _ _ p => rd.chain (mg := X.mg) (Wx := Wx) (rd.tv p)
end

/-! ### argument lists, displays -/
def aNil : Av := fun _ h => .ok [] h
def aCons (f : Ev) (g : Av) : Av := fun env h => (f env h).bind fun s h => (g env h).bind fun ss h => .ok (s :: ss) h
/-- all data -/
def vals? : List Sl → Option (List PyData)
  | [] => some []
  | .val d :: r => (vals? r).map (d :: ·)
  | _ :: _ => none
def lineOk (n : Nat) : Bool := decide (n ≤ 16777216)
theorem lineOk_le {n : Nat} (h : lineOk n = true) : n ≤ sizeLine := by rw [sizeLine_eq]; exact of_decide_eq_true h
def eTup (f : Av) : Ev := fun env h => (f env h).bind fun ss h => .give ((vals? ss).bind fun ds => if lineOk ds.length then some (.tuple ds) else none) h
def eLst (f : Av) : Ev := fun env h => (f env h).bind fun ss h => .give ((vals? ss).bind fun ds => if lineOk ds.length then some (.list ds) else none) h
/-- a list of the def's own -/
def eNew (f : Av) : Ev := fun env h => (f env h).bind fun ss h => match vals? ss with
  | some ds => if lineOk ds.length then .ok (.loc h.length) (h ++ [.lst ds]) else .bad
  | none => .bad
section
variable {K : PySem.W.Frag} {C : Fc} {ρ : Fps} {H : Hp}
theorem vals_rel : ∀ {vs : List V} {ss : List Sl} {ds : List PyData}, SlVs K C ρ H vs ss → vals? ss = some ds → RpAll K H (Mo C ρ) vs ds
  | _, _, ds, .nil, e => by
    have e' : some ([] : List PyData) = some ds := e
    cases e'; exact .nil
  | _, _, ds, .cons (b := .val d) r t, e => by
    have e' : (vals? _).map (d :: ·) = some ds := e
    cases q : vals? _ with
    | none => rw [q] at e'; cases e'
    | some es =>
      rw [q] at e'
      cases e'
      exact .cons r (vals_rel t q)
  | _, _, _, .cons (b := .loc n) r t, e => by cases (show none = some _ from e)
  | _, _, _, .cons (b := .inn n i) r t, e => by cases (show none = some _ from e)
  | _, _, _, .cons (b := .exn x) r t, e => by cases (show none = some _ from e)
end
section
variable {X : Cx} {C : Fc} {Wx : WX} {e : Expr} {es : List Expr} {f : Ev} {g : Av} {pos : Pos}
theorem fa_nil : FA X C Wx [] aNil := PA.imp pa_nil fun σ H Q ⟨ρ, env, h, S, E, P⟩ => P ρ [] H (Ex.refl _ _ _) S .nil
theorem fa_cons (ha : FE X C Wx e f) (hr : FA X C Wx es g) (hs : starEach (e :: es) X.env = (false, eval e X.env) :: starEach es X.env := by rfl) : FA X C Wx (e :: es) (aCons f g) := PA.imp (pa_cons ha hr hs) fun σ H Q p => by
  refine rd.bind (f := f) (g := fun s env h => (g env h).bind fun ss h => .ok (s :: ss) h) p fun ρ1 env h1 s x H1 S1 E1 r1 P1 => ?_
  refine rd.of (env := env) (h := h1) S1 E1 ?_
  cases q : g env h1 with
  | err y h2 => rw [q] at P1; exact P1
  | bad => rw [q] at P1; exact P1
  | ok ss h2 =>
    intro ρ2 ys H2 x2 S2 r2
    rw [q] at P1
    exact P1 ρ2 (x :: ys) H2 x2 S2 (.cons (SlV.ex x2 r1) r2)
theorem give_disp {mk : List PyData → PyData} {ss : List Sl} {h : Hs} {mg : Str → Option Value} {σ : St} {ρ : Fps} {H : Hp} {Q : VK} (p : Po X.K mg C Wx σ ρ H (relE X.K C) (.give ((vals? ss).bind fun ds => if lineOk ds.length then some (mk ds) else none) h) Q) :
    ∃ ds, vals? ss = some ds ∧ ds.length ≤ sizeLine ∧ ∀ v H', Ex C ρ H ρ H' → SimH X.K C ρ h H' → Rp X.K H' (Mo C ρ) v (mk ds) → Q v H' := by
  obtain ⟨d, e, q⟩ := p.given
  cases z : vals? ss with
  | none => rw [z] at e; cases e
  | some ds =>
    rw [z] at e
    have e' : (if lineOk ds.length then some (mk ds) else none) = some d := e
    split at e'
    · rename_i hl
      cases e'
      exact ⟨ds, rfl, lineOk_le hl, q⟩
    · cases e'
theorem fe_tup {x1} (h : FA X C Wx es g) : FE X C Wx (.Tuple es x1 pos) (eTup g) := PE.imp (pe_tup h) fun σ H Q p => by
  refine rd.bind (f := g) (g := fun ss env h => .give ((vals? ss).bind fun ds => if lineOk ds.length then some (.tuple ds) else none) h) p fun ρ1 env h1 ss xs H1 S1 E1 r1 P1 => ?_
  obtain ⟨ds, e, hl, q⟩ := give_disp P1
  have r := vals_rel r1 e
  exact ⟨by rw [r.length]; exact hl, fun p hp => q _ _ (Ex.laid S1 hp) (S1.laid hp) (Rp.newTup S1 hp r)⟩
theorem fe_lst (h : FA X C Wx es g) : FE X C Wx (.List es pos) (eLst g) := PE.imp (pe_lst h) fun σ H Q p => by
  refine rd.bind (f := g) (g := fun ss env h => .give ((vals? ss).bind fun ds => if lineOk ds.length then some (.list ds) else none) h) p fun ρ1 env h1 ss xs H1 S1 E1 r1 P1 => ?_
  obtain ⟨ds, e, hl, q⟩ := give_disp P1
  have r := vals_rel r1 e
  exact ⟨by rw [r.length]; exact hl, fun p hp => q _ _ (Ex.laid S1 hp) (S1.laid hp) (Rp.newLst S1 hp r)⟩
theorem push_lst {ρ : Fps} {h : Hs} {H : Hp} {p : Addr} {vs : List V} {ds : List PyData} {K : PySem.W.Frag} (S : SimH K C ρ h H) (hp : H p = none) (r : RpAll K H (Mo C ρ) vs ds) : SimH K C (ρ ++ [[p]]) (h ++ [.lst ds]) (upd H p (.lst vs)) :=
  S.push hp ⟨p, vs, rfl, upd_same, r.stp (Stp.push hp)⟩
theorem fe_new (h : FA X C Wx es g) : FE X C Wx (.List es pos) (eNew g) := PE.imp (pe_lst h) fun σ H Q p => by
  refine rd.bind (f := g) (g := fun ss env h => match vals? ss with
    | some ds => if lineOk ds.length then (.ok (.loc h.length) (h ++ [.lst ds]) : Rz Sl) else .bad
    | none => .bad) p fun ρ1 env h1 ss xs H1 S1 E1 r1 P1 => ?_
  cases e : vals? ss with
  | none => rw [e] at P1; exact P1.elim
  | some ds =>
    rw [e] at P1
    have r := vals_rel r1 e
    have P2 : Po X.K X.mg C Wx σ ρ1 H1 (relE X.K C) (if lineOk ds.length then .ok (.loc h1.length) (h1 ++ [.lst ds]) else .bad) Q := P1
    split at P2
    · rename_i hl
      refine ⟨by rw [r.length]; exact lineOk_le hl, fun p hp => P2 (ρ1 ++ [[p]]) (.ref p) _ (Ex.push hp) (push_lst S1 hp r) ?_⟩
      rw [← S1.len]
      exact SlV.pushed _
    · exact P2.elim
end
end FL

namespace FL
open PySem PySem.Spec PyProof.Rows L2

/-! ### primitives -/
/-- the items of a list or tuple -/
def inn? (h : Hs) (n i : Nat) : Option (List PyData) := match h[n]? with
  | some (.lls dss) => dss[i]?
  | some (.dil dss _) => dss[i]?
  | _ => none
def items (s : Sl) (h : Hs) : Option (List PyData) := match s with
  | .val (.list ds) => some ds
  | .val (.tuple ds) => some ds
  | .loc n => match h[n]? with
    | some (.lst ds) => some ds
    | _ => none
  | .inn n i => inn? h n i
  | _ => none
/-- as data -/
def dat (s : Sl) (h : Hs) : Option PyData := match s with
  | .val d => some d
  | .loc n => match h[n]? with
    | some (.lst ds) => some (.list ds)
    | _ => none
  | .inn n i => (inn? h n i).map .list
  | .exn _ => none
theorem SimH.inn {K : PySem.W.Frag} {C : Fc} {ρ : Fps} {h : Hs} {H : Hp} (S : SimH K C ρ h H) {n i : Nat} {fp : List Addr} {a : Addr} {ds : List PyData} (e1 : ρ[n]? = some fp) (e2 : fp[i + 1]? = some a) (e3 : inn? h n i = some ds) : ∃ vs, H a = some (.lst vs) ∧ RpAll K H (Mo C ρ) vs ds := by
  unfold inn? at e3
  split at e3
  · rename_i dss e4
    obtain ⟨b, bs, rfl, _, _, w⟩ := S.obj n fp _ e1 e4
    exact w i a ds (by simpa using e2) e3
  · rename_i dss ks e4
    obtain ⟨b, bs, rfl, _, _, _, w⟩ := S.obj n fp _ e1 e4
    exact w i a ds (by simpa using e2) e3
  · cases e3
section
variable {K : PySem.W.Frag} {C : Fc} {ρ : Fps} {H : Hp} {h : Hs} {v : V} {s : Sl}
theorem items_rel {ds : List PyData} (S : SimH K C ρ h H) (r : SlV K C ρ H v s) (e : items s h = some ds) : ∃ a vs, v = .ref a ∧ (SqL K H a vs ∨ SqT K H a vs) ∧ RpAll K H (Mo C ρ) vs ds := by
  unfold items at e
  split at e
  · rename_i ds'
    cases e
    cases (show Rp K H (Mo C ρ) v (.list ds) from r) with
    | lst q a => exact ⟨_, _, rfl, .inl q.sq, a⟩
  · rename_i ds'
    cases e
    cases (show Rp K H (Mo C ρ) v (.tuple ds) from r) with
    | tup q a => exact ⟨_, _, rfl, .inr q.sq, a⟩
  · rename_i n
    obtain ⟨fp, a, e1, e2, rfl⟩ := r
    split at e
    · rename_i ds' e3
      cases e
      obtain ⟨_, vs, q, a⟩ := S.lst e1 e2 e3
      exact ⟨_, vs, rfl, .inl (SqL.of q), a⟩
    · cases e
  · rename_i n i
    obtain ⟨fp, a, e1, e2, rfl⟩ := r
    obtain ⟨vs, q, ra⟩ := S.inn e1 e2 e
    exact ⟨_, vs, rfl, .inl (SqL.of q), ra⟩
  · cases e
theorem dat_rel {d : PyData} (S : SimH K C ρ h H) (r : SlV K C ρ H v s) (e : dat s h = some d) (nd : d.hasDict = false) : Dp K H v d := by
  unfold dat at e
  split at e
  · cases e
    exact Rp.dp _ _ nd r
  · rename_i n
    obtain ⟨fp, a, e1, e2, rfl⟩ := r
    split at e
    · rename_i ds' e3
      cases e
      obtain ⟨_, vs, q, a⟩ := S.lst e1 e2 e3
      exact .lst (SqL.of q) (RpAll.dp _ _ (by simpa only [PyData.hasDict] using nd) a)
    · cases e
  · rename_i n i
    obtain ⟨fp, a, e1, e2, rfl⟩ := r
    cases q0 : inn? h n i with
    | none => rw [q0] at e; cases e
    | some ds =>
      rw [q0] at e
      cases e
      obtain ⟨vs, q, ra⟩ := S.inn e1 e2 q0
      exact .lst (SqL.of q) (RpAll.dp _ _ (by simpa only [PyData.hasDict] using nd) ra)
  · cases e
end
/-- an operation on two ints -/
def gI (f : Int → Int → Option PyData) : G2 := fun s t _ => match s, t with
  | .val (.int i), .val (.int j) => f i j
  | _, _ => none
theorem gI_some {f : Int → Int → Option PyData} {s t : Sl} {h : Hs} {d : PyData} (e : gI f s t h = some d) : ∃ i j, s = .val (.int i) ∧ t = .val (.int j) ∧ f i j = some d := by
  unfold gI at e
  split at e
  · exact ⟨_, _, rfl, rfl, e⟩
  · cases e
section
variable {X : Cx} {C : Fc}
theorem o_int {f : Value → Value → Sem Value} {g : Int → Int → Option PyData} {r : R2} (ho : OpR X f r) (i : ∀ i j d H Q, g i j = some d → (∀ v, Rp X.K H (fun _ => True) v d → Q v H) → r (.int i) (.int j) H Q)
    (sc : ∀ i j d, g i j = some d → ∀ H M M' v, Rp X.K H M v d → Rp X.K H M' v d) : OpR X f (rd2 X.K C (gI g)) := OpR.imp ho fun x y H Q ⟨ρ, h, s, t, d, S, r1, r2, e, k⟩ => by
  obtain ⟨a, b, rfl, rfl, e⟩ := gI_some e
  cases (show Rp X.K H (Mo C ρ) x (.int a) from r1)
  cases (show Rp X.K H (Mo C ρ) y (.int b) from r2)
  exact i a b d H Q e fun v r => k v H (Ex.refl _ _ _) S (sc a b d e _ _ _ _ r)
def fAdd (i j : Int) : Option PyData := some (.int (i + j))
def fSub (i j : Int) : Option PyData := some (.int (i - j))
def fMul (i j : Int) : Option PyData := if (-(2 ^ 64) < i ∧ i < 2 ^ 64) ∨ (-(2 ^ 64) < j ∧ j < 2 ^ 64) then some (.int (i * j)) else none
def fMod (i j : Int) : Option PyData := if 0 < j then some (.int (i % j)) else none
def fDiv (i j : Int) : Option PyData := if 0 < j ∧ j < 18446744073709551616 then some (.int (i / j)) else none
theorem log2_64 {j : Int} (h : 0 < j ∧ j < 18446744073709551616) : j.natAbs.log2 < 9000 := by
  have h0 : j.natAbs ≠ 0 := by omega
  have h1 : j.natAbs < 2 ^ 64 := by omega
  have := (Nat.log2_lt h0).mpr h1
  omega
def fPow (i j : Int) : Option PyData := if 0 ≤ j ∧ j ≤ 1000000 ∧ i.natAbs < 2 ^ 64 then some (.int (i ^ j.toNat)) else none
def fLt (i j : Int) : Option PyData := some (.bool (decide (i < j)))
def fLe (i j : Int) : Option PyData := some (.bool (decide (i ≤ j)))
def fGt (i j : Int) : Option PyData := some (.bool (decide (j < i)))
def fGe (i j : Int) : Option PyData := some (.bool (decide (j ≤ i)))
theorem sc_int {K : PySem.W.Frag} {H : Hp} {M M' : Ms} {v : V} {n : Int} (r : Rp K H M v (.int n)) : Rp K H M' v (.int n) := by cases r; exact .int n
theorem sc_bool {K : PySem.W.Frag} {H : Hp} {M M' : Ms} {v : V} {n : Bool} (r : Rp K H M v (.bool n)) : Rp K H M' v (.bool n) := by cases r; exact .bl n
theorem o_addI : OpR X (binaryOp .Add) (rd2 X.K C (gI fAdd)) := o_int op_add (fun i j d H Q e k => by cases e; exact ⟨i, j, rfl, rfl, k _ (.int _)⟩) (fun i j d e H M M' v r => by cases e; exact sc_int r)
theorem o_sub : OpR X (binaryOp .Sub) (rd2 X.K C (gI fSub)) := o_int op_sub (fun i j d H Q e k => by cases e; exact ⟨i, j, rfl, rfl, k _ (.int _)⟩) (fun i j d e H M M' v r => by cases e; exact sc_int r)
theorem o_mul : OpR X (binaryOp .Mult) (rd2 X.K C (gI fMul)) := o_int op_mul (fun i j d H Q e k => by
    unfold fMul at e
    split at e
    · rename_i c
      cases e; exact ⟨i, j, rfl, rfl, c, k _ (.int _)⟩
    · cases e) (fun i j d e H M M' v r => by
    unfold fMul at e
    split at e
    · cases e; exact sc_int r
    · cases e)
theorem o_mod : OpR X (binaryOp .Mod) (rd2 X.K C (gI fMod)) := o_int op_mod (fun i j d H Q e k => by
    unfold fMod at e
    split at e
    · rename_i c
      cases e; exact ⟨i, j, rfl, rfl, c, k _ (.int _)⟩
    · cases e) (fun i j d e H M M' v r => by
    unfold fMod at e
    split at e
    · cases e; exact sc_int r
    · cases e)
theorem o_div : OpR X (binaryOp .FloorDiv) (rd2 X.K C (gI fDiv)) := o_int op_fdivW (fun i j d H Q e k => by
    unfold fDiv at e
    split at e
    · rename_i c
      cases e; exact ⟨i, j, rfl, rfl, ⟨c.1, log2_64 c⟩, k _ (.int _)⟩
    · cases e) (fun i j d e H M M' v r => by
    unfold fDiv at e
    split at e
    · cases e; exact sc_int r
    · cases e)
theorem o_pow : OpR X (binaryOp .Pow) (rd2 X.K C (gI fPow)) := o_int op_pow (fun i j d H Q e k => by
    unfold fPow at e
    split at e
    · rename_i c
      cases e; exact ⟨i, j, rfl, rfl, c, k _ (.int _)⟩
    · cases e) (fun i j d e H M M' v r => by
    unfold fPow at e
    split at e
    · cases e; exact sc_int r
    · cases e)
theorem o_lt : OpR X (compareOp .Lt) (rd2 X.K C (gI fLt)) := o_int op_lt (fun i j d H Q e k => by cases e; exact ⟨i, j, rfl, rfl, k _ (.bl _)⟩) (fun i j d e H M M' v r => by cases e; exact sc_bool r)
theorem o_le : OpR X (compareOp .LtE) (rd2 X.K C (gI fLe)) := o_int op_le (fun i j d H Q e k => by cases e; exact ⟨i, j, rfl, rfl, k _ (.bl _)⟩) (fun i j d e H M M' v r => by cases e; exact sc_bool r)
theorem o_gt : OpR X (compareOp .Gt) (rd2 X.K C (gI fGt)) := o_int op_gt (fun i j d H Q e k => by cases e; exact ⟨i, j, rfl, rfl, k _ (.bl _)⟩) (fun i j d e H M M' v r => by cases e; exact sc_bool r)
theorem o_ge : OpR X (compareOp .GtE) (rd2 X.K C (gI fGe)) := o_int op_ge (fun i j d H Q e k => by cases e; exact ⟨i, j, rfl, rfl, k _ (.bl _)⟩) (fun i j d e H M M' v r => by cases e; exact sc_bool r)
/-! ### == , != of data -/
def shp (d : PyData) : Bool := SeqAt.shaped d
theorem shp_nd {d : PyData} (h : shp d = true) : d.hasDict = false := PyData.hasDict_of_canLay d (SeqAt.canLay_of_shaped h)
/-- what may be compared: texts, data of a shape -/
def eqOk (d e : PyData) : Bool := match d, e with
  | .str _, .str _ => true
  | _, _ => shp d && shp e
theorem eqOk_or {d e : PyData} (h : eqOk d e = true) : (∃ a b, d = .str a ∧ e = .str b) ∨ (shp d = true ∧ shp e = true) := by
  unfold eqOk at h
  split at h
  · exact .inl ⟨_, _, rfl, rfl⟩
  · exact .inr (Bool.and_eq_true_iff.mp h)
def gEq : G2 := fun s t h => match dat s h, dat t h with
  | some d, some e => if eqOk d e then some (.bool (PyData.eqv d e)) else none
  | _, _ => none
def gNe : G2 := fun s t h => match dat s h, dat t h with
  | some d, some e => if eqOk d e then some (.bool (!PyData.eqv d e)) else none
  | _, _ => none
theorem eqv_str {a b : Str} : PyData.eqv (.str a) (.str b) = decide (V.str a = V.str b) := by
  by_cases h : a = b
  · subst h; simp [PyData.eqv]
  · have : ¬ V.str a = V.str b := fun z => h (V.str.inj z)
    simp [PyData.eqv, h, this]
theorem dat_str {K : PySem.W.Frag} {ρ : Fps} {h : Hs} {H : Hp} {s : Sl} {v : V} {a : Str} (r : SlV K C ρ H v s) (e : dat s h = some (.str a)) : v = .str a := by
  cases s with
  | val d =>
    have e' : some d = some (.str a) := e
    cases e'
    cases (show Rp K H (Mo C ρ) v (.str a) from r)
    rfl
  | loc n =>
    have e' : (match h[n]? with
      | some (.lst ds) => some (PyData.list ds)
      | _ => none) = some (.str a) := e
    split at e' <;> cases e'
  | inn n i =>
    have e' : (inn? h n i).map PyData.list = some (.str a) := e
    cases q : inn? h n i <;> (rw [q] at e'; cases e')
  | exn x => cases (show (none : Option PyData) = some (.str a) from e)
theorem o_eq (hu : X.A.units + 64 < cLine) : OpR X (compareOp .Eq) (rd2 X.K C gEq) := by
  intro pins st σ H x y v u Q I rx ry ⟨ρ, h, s, t, d, S, r1, r2, e, k⟩
  unfold gEq at e
  split at e
  · rename_i a b e1 e2
    split at e
    · rename_i c
      cases e
      rcases eqOk_or c with ⟨p, q, rfl, rfl⟩ | ⟨c1, c2⟩
      · refine op_eq pins st σ H x y v u Q I rx ry ?_
        rw [dat_str r1 e1, dat_str r2 e2]
        refine ⟨rfl, ?_⟩
        rw [← eqv_str]
        exact k _ H (Ex.refl _ _ _) S (.bl _)
      · exact op_eqD hu pins st σ H x y v u Q I rx ry ⟨a, b, dat_rel S r1 e1 (shp_nd c1), dat_rel S r2 e2 (shp_nd c2), c1, c2, k _ H (Ex.refl _ _ _) S (.bl _)⟩
    · cases e
  · cases e
theorem o_ne (hu : X.A.units + 64 < cLine) : OpR X (compareOp .NotEq) (rd2 X.K C gNe) := by
  intro pins st σ H x y v u Q I rx ry ⟨ρ, h, s, t, d, S, r1, r2, e, k⟩
  unfold gNe at e
  split at e
  · rename_i a b e1 e2
    split at e
    · rename_i c
      cases e
      rcases eqOk_or c with ⟨p, q, rfl, rfl⟩ | ⟨c1, c2⟩
      · refine op_ne pins st σ H x y v u Q I rx ry ?_
        rw [dat_str r1 e1, dat_str r2 e2]
        refine ⟨rfl, ?_⟩
        rw [← eqv_str]
        exact k _ H (Ex.refl _ _ _) S (.bl _)
      · exact op_neD hu pins st σ H x y v u Q I rx ry ⟨a, b, dat_rel S r1 e1 (shp_nd c1), dat_rel S r2 e2 (shp_nd c2), c1, c2, k _ H (Ex.refl _ _ _) S (.bl _)⟩
    · cases e
  · cases e
/-! ### is None -/
def isN : Sl → Bool
  | .val .none => true
  | _ => false
def gIsN : G2 := fun s t _ => match t with
  | .val .none => some (.bool (isN s))
  | _ => none
def gNotN : G2 := fun s t _ => match t with
  | .val .none => some (.bool (!isN s))
  | _ => none
theorem isN_rel {K : PySem.W.Frag} {ρ : Fps} {H : Hp} {v : V} {s : Sl} (r : SlV K C ρ H v s) : decide (v = .non) = isN s := by
  cases s with
  | loc n =>
    obtain ⟨fp, a, _, _, rfl⟩ := r
    rfl
  | inn n i =>
    obtain ⟨fp, a, _, _, rfl⟩ := r
    rfl
  | exn x =>
    obtain ⟨a, _, rfl⟩ := r
    rfl
  | val d =>
    have r' : Rp K H (Mo C ρ) v d := r
    cases r' <;> rfl
theorem o_is : OpR X (compareOp .Is) (rd2 X.K C gIsN) := OpR.imp op_isN fun x y H Q ⟨ρ, h, s, t, d, S, r1, r2, e, k⟩ => by
  unfold gIsN at e
  split at e
  · cases e
    cases (show Rp X.K H (Mo C ρ) y .none from r2)
    refine ⟨rfl, ?_⟩
    rw [isN_rel r1]
    exact k _ H (Ex.refl _ _ _) S (.bl _)
  · cases e
theorem o_isnot : OpR X (compareOp .IsNot) (rd2 X.K C gNotN) := OpR.imp op_notN fun x y H Q ⟨ρ, h, s, t, d, S, r1, r2, e, k⟩ => by
  unfold gNotN at e
  split at e
  · cases e
    cases (show Rp X.K H (Mo C ρ) y .none from r2)
    refine ⟨rfl, ?_⟩
    rw [isN_rel r1]
    exact k _ H (Ex.refl _ _ _) S (.bl _)
  · cases e
/-! ### subscripts -/
def gIx : G2 := fun s t h => match items s h, t with
  | some ds, .val (.int i) => atI ds i
  | _, _ => none
theorem atI_rel {K : PySem.W.Frag} {H : Hp} {M : Ms} {vs : List V} {ds : List PyData} {i : Int} {d : PyData} (r : RpAll K H M vs ds) (e : atI ds i = some d) : ∃ v, atI vs i = some v ∧ Rp K H M v d := by
  unfold atI at e ⊢
  rw [r.length]
  cases q : ixN ds.length i with
  | none => rw [q] at e; cases e
  | some j =>
    rw [q] at e
    exact r.get e
theorem i_ix : IxR X (rd2 X.K C gIx) := IxR.imp ix_seq fun x y H Q ⟨ρ, h, s, t, d, S, r1, r2, e, k⟩ => by
  unfold gIx at e
  split at e
  · rename_i ds i e1
    cases (show Rp X.K H (Mo C ρ) y (.int i) from r2)
    obtain ⟨a, vs, rfl, sq, ra⟩ := items_rel S r1 e1
    obtain ⟨v, ev, rv⟩ := atI_rel ra e
    have fin := k v H (Ex.refl _ _ _) S rv
    rcases sq with sq | sq
    · exact .inl ⟨a, vs, i, v, rfl, rfl, sq, ev, fin⟩
    · exact .inr (.inl ⟨a, vs, i, v, rfl, rfl, sq, ev, fin⟩)
  · cases e
end
/-! ### builtins -/
def gLen : GL := fun ss h => match ss with
  | [s] => (items s h).map fun ds => .int ds.length
  | _ => none
def bools? : List PyData → Option (List Bool)
  | [] => some []
  | .bool b :: r => (bools? r).map (b :: ·)
  | _ :: _ => none
def ints? : List PyData → Option (List Int)
  | [] => some []
  | .int b :: r => (ints? r).map (b :: ·)
  | _ :: _ => none
/-- the items of a list alone -/
def litems (s : Sl) (h : Hs) : Option (List PyData) := match s with
  | .val (.list ds) => some ds
  | .loc n => match h[n]? with
    | some (.lst ds) => some ds
    | _ => none
  | .inn n i => inn? h n i
  | _ => none
def gAll : GL := fun ss h => match ss with
  | [s] => ((litems s h).bind bools?).map fun bs => .bool (bs.all id)
  | _ => none
def gAny : GL := fun ss h => match ss with
  | [s] => ((litems s h).bind bools?).map fun bs => .bool (bs.any id)
  | _ => none
def gSum : GL := fun ss h => match ss with
  | [s] => ((litems s h).bind ints?).map fun bs => .int bs.sum
  | _ => none
def gInt : GL := fun ss _ => match ss with
  | [.val (.int i)] => some (.int i)
  | [.val (.bool b)] => some (.int (if b then 1 else 0))
  | _ => none
def gMax2 : GL := fun ss _ => match ss with
  | [.val (.int i), .val (.int j)] => some (.int (if j > i then j else i))
  | _ => none
def gMin2 : GL := fun ss _ => match ss with
  | [.val (.int i), .val (.int j)] => some (.int (if j < i then j else i))
  | _ => none
def gAbs : GL := fun ss _ => match ss with
  | [.val (.int i)] => some (.int (if i < 0 then -i else i))
  | _ => none
def gTuple : GL := fun ss h => match ss with
  | [s] => (items s h).map fun ds => .tuple ds
  | _ => none
def gList : GL := fun ss h => match ss with
  | [s] => (items s h).map fun ds => .list ds
  | _ => none
section
variable {K : PySem.W.Frag} {C : Fc} {ρ : Fps} {H : Hp} {h : Hs} {v : V} {s : Sl}
theorem litems_rel {ds : List PyData} (S : SimH K C ρ h H) (r : SlV K C ρ H v s) (e : litems s h = some ds) : ∃ a vs, v = .ref a ∧ SqL K H a vs ∧ RpAll K H (Mo C ρ) vs ds := by
  unfold litems at e
  split at e
  · cases e
    cases (show Rp K H (Mo C ρ) v (.list ds) from r) with
    | lst q a => exact ⟨_, _, rfl, q.sq, a⟩
  · rename_i n
    obtain ⟨fp, a, e1, e2, rfl⟩ := r
    split at e
    · rename_i ds' e3
      cases e
      obtain ⟨_, vs, q, a⟩ := S.lst e1 e2 e3
      exact ⟨_, vs, rfl, SqL.of q, a⟩
    · cases e
  · rename_i n i
    obtain ⟨fp, a, e1, e2, rfl⟩ := r
    obtain ⟨vs, q, ra⟩ := S.inn e1 e2 e
    exact ⟨_, vs, rfl, SqL.of q, ra⟩
  · cases e
theorem bools_rel : ∀ {M : Ms} {vs : List V} {ds : List PyData} {bs : List Bool}, RpAll K H M vs ds → bools? ds = some bs → vs = bs.map V.bl
  | _, _, [], bs, .nil, e => by
    have e' : some ([] : List Bool) = some bs := e
    cases e'; rfl
  | _, _, .bool b :: r, bs, .cons q t, e => by
    cases q
    have e' : (bools? r).map (b :: ·) = some bs := e
    cases z : bools? r with
    | none => rw [z] at e'; cases e'
    | some cs =>
      rw [z] at e'
      cases e'
      rw [bools_rel t z]; rfl
  | _, _, .none :: _, _, .cons _ _, e => by cases (show none = some _ from e)
  | _, _, .int _ :: _, _, .cons _ _, e => by cases (show none = some _ from e)
  | _, _, .str _ :: _, _, .cons _ _, e => by cases (show none = some _ from e)
  | _, _, .list _ :: _, _, .cons _ _, e => by cases (show none = some _ from e)
  | _, _, .tuple _ :: _, _, .cons _ _, e => by cases (show none = some _ from e)
  | _, _, .dict _ :: _, _, .cons _ _, e => by cases (show none = some _ from e)
theorem ints_rel : ∀ {M : Ms} {vs : List V} {ds : List PyData} {bs : List Int}, RpAll K H M vs ds → ints? ds = some bs → vs = bs.map V.int
  | _, _, [], bs, .nil, e => by
    have e' : some ([] : List Int) = some bs := e
    cases e'; rfl
  | _, _, .int b :: r, bs, .cons q t, e => by
    cases q
    have e' : (ints? r).map (b :: ·) = some bs := e
    cases z : ints? r with
    | none => rw [z] at e'; cases e'
    | some cs =>
      rw [z] at e'
      cases e'
      rw [ints_rel t z]; rfl
  | _, _, .none :: _, _, .cons _ _, e => by cases (show none = some _ from e)
  | _, _, .bool _ :: _, _, .cons _ _, e => by cases (show none = some _ from e)
  | _, _, .str _ :: _, _, .cons _ _, e => by cases (show none = some _ from e)
  | _, _, .list _ :: _, _, .cons _ _, e => by cases (show none = some _ from e)
  | _, _, .tuple _ :: _, _, .cons _ _, e => by cases (show none = some _ from e)
  | _, _, .dict _ :: _, _, .cons _ _, e => by cases (show none = some _ from e)
theorem SlVs.one {xs : List V} (r : SlVs K C ρ H xs [s]) : ∃ x, xs = [x] ∧ SlV K C ρ H x s := by
  cases r with
  | cons a b => cases b; exact ⟨_, rfl, a⟩
theorem SlVs.two {t : Sl} {xs : List V} (r : SlVs K C ρ H xs [s, t]) : ∃ x y, xs = [x, y] ∧ SlV K C ρ H x s ∧ SlV K C ρ H y t := by
  cases r with
  | cons a b =>
    cases b with
    | cons c d => cases d; exact ⟨_, _, rfl, a, c⟩
end
section
variable {X : Cx} {C : Fc}
theorem map_some {α β : Type} {o : Option α} {f : α → β} {b : β} (e : o.map f = some b) : ∃ a, o = some a ∧ b = f a := by
  cases o with
  | none => cases e
  | some a => cases e; exact ⟨a, rfl, rfl⟩
theorem bind_some {α β : Type} {o : Option α} {f : α → Option β} {b : β} (e : o.bind f = some b) : ∃ a, o = some a ∧ f a = some b := by
  cases o with
  | none => cases e
  | some a => exact ⟨a, rfl, e⟩
theorem c_len : CallR X (.builtin "len") (rdC X.K C gLen) := CallR.imp call_len_seq fun xs H Q ⟨ρ, h, ss, d, S, r, e, k⟩ => by
  unfold gLen at e
  split at e
  · obtain ⟨x, rfl, ro⟩ := r.one
    obtain ⟨ds, e1, rfl⟩ := map_some e
    obtain ⟨a, vs, rfl, sq, ra⟩ := items_rel S ro e1
    refine ⟨a, vs, rfl, sq, ?_⟩
    rw [ra.length]
    exact k _ H (Ex.refl _ _ _) S (.int _)
  · cases e
theorem c_all (hc : X.calm = true) : CallR X (.builtin "all") (rdC X.K C gAll) := CallR.imp (cr_all hc) fun xs H Q ⟨ρ, h, ss, d, S, r, e, k⟩ => by
  unfold gAll at e
  split at e
  · obtain ⟨x, rfl, ro⟩ := r.one
    obtain ⟨bs, e1, rfl⟩ := map_some e
    obtain ⟨ds, e2, e3⟩ := bind_some e1
    obtain ⟨a, vs, rfl, sq, ra⟩ := litems_rel S ro e2
    have ev := bools_rel ra e3
    subst ev
    exact ⟨a, bs, rfl, sq, k _ H (Ex.refl _ _ _) S (.bl _)⟩
  · cases e
theorem c_any (hc : X.calm = true) : CallR X (.builtin "any") (rdC X.K C gAny) := CallR.imp (cr_any hc) fun xs H Q ⟨ρ, h, ss, d, S, r, e, k⟩ => by
  unfold gAny at e
  split at e
  · obtain ⟨x, rfl, ro⟩ := r.one
    obtain ⟨bs, e1, rfl⟩ := map_some e
    obtain ⟨ds, e2, e3⟩ := bind_some e1
    obtain ⟨a, vs, rfl, sq, ra⟩ := litems_rel S ro e2
    have ev := bools_rel ra e3
    subst ev
    exact ⟨a, bs, rfl, sq, k _ H (Ex.refl _ _ _) S (.bl _)⟩
  · cases e
theorem c_sum (hc : X.calm = true) : CallR X (.builtin "sum") (rdC X.K C gSum) := CallR.imp (cr_sum hc) fun xs H Q ⟨ρ, h, ss, d, S, r, e, k⟩ => by
  unfold gSum at e
  split at e
  · obtain ⟨x, rfl, ro⟩ := r.one
    obtain ⟨bs, e1, rfl⟩ := map_some e
    obtain ⟨ds, e2, e3⟩ := bind_some e1
    obtain ⟨a, vs, rfl, sq, ra⟩ := litems_rel S ro e2
    have ev := ints_rel ra e3
    subst ev
    exact ⟨a, bs, rfl, sq, k _ H (Ex.refl _ _ _) S (.int _)⟩
  · cases e
theorem c_int : CallR X (.type "int") (rdC X.K C gInt) := CallR.imp call_int1 fun xs H Q ⟨ρ, h, ss, d, S, r, e, k⟩ => by
  unfold gInt at e
  split at e
  · rename_i i
    obtain ⟨x, rfl, ro⟩ := r.one
    cases (show Rp X.K H (Mo C ρ) x (.int i) from ro)
    cases e
    exact .inl ⟨i, rfl, k _ H (Ex.refl _ _ _) S (.int _)⟩
  · rename_i b
    obtain ⟨x, rfl, ro⟩ := r.one
    cases (show Rp X.K H (Mo C ρ) x (.bool b) from ro)
    cases e
    exact .inr ⟨b, rfl, k _ H (Ex.refl _ _ _) S (.int _)⟩
  · cases e
theorem c_max2 (hc : X.calm = true) : CallR X (.builtin "max") (rdC X.K C gMax2) := CallR.imp (call_max2 hc) fun xs H Q ⟨ρ, h, ss, d, S, r, e, k⟩ => by
  unfold gMax2 at e
  split at e
  · rename_i i j
    obtain ⟨x, y, rfl, r1, r2⟩ := r.two
    cases (show Rp X.K H (Mo C ρ) x (.int i) from r1)
    cases (show Rp X.K H (Mo C ρ) y (.int j) from r2)
    cases e
    exact ⟨i, j, rfl, k _ H (Ex.refl _ _ _) S (.int _)⟩
  · cases e
theorem c_min2 (hc : X.calm = true) : CallR X (.builtin "min") (rdC X.K C gMin2) := CallR.imp (call_min2 hc) fun xs H Q ⟨ρ, h, ss, d, S, r, e, k⟩ => by
  unfold gMin2 at e
  split at e
  · rename_i i j
    obtain ⟨x, y, rfl, r1, r2⟩ := r.two
    cases (show Rp X.K H (Mo C ρ) x (.int i) from r1)
    cases (show Rp X.K H (Mo C ρ) y (.int j) from r2)
    cases e
    exact ⟨i, j, rfl, k _ H (Ex.refl _ _ _) S (.int _)⟩
  · cases e
theorem c_abs : CallR X (.builtin "abs") (rdC X.K C gAbs) := CallR.imp call_abs fun xs H Q ⟨ρ, h, ss, d, S, r, e, k⟩ => by
  unfold gAbs at e
  split at e
  · rename_i i
    obtain ⟨x, rfl, ro⟩ := r.one
    cases (show Rp X.K H (Mo C ρ) x (.int i) from ro)
    cases e
    exact ⟨i, rfl, k _ H (Ex.refl _ _ _) S (.int _)⟩
  · cases e
theorem c_list : CallR X (.type "list") (rdC X.K C gList) := CallR.imp call_list_of fun xs H Q ⟨ρ, h, ss, d, S, r, e, k⟩ => by
  unfold gList at e
  split at e
  · obtain ⟨x, rfl, ro⟩ := r.one
    obtain ⟨ds, e1, rfl⟩ := map_some e
    obtain ⟨a, vs, rfl, sq, ra⟩ := items_rel S ro e1
    exact ⟨a, vs, rfl, sq, fun p hp => k _ _ (Ex.laid S hp) (S.laid hp) (Rp.newLst S hp ra)⟩
  · cases e
theorem c_tuple : CallR X (.type "tuple") (rdC X.K C gTuple) := CallR.imp call_tuple_of fun xs H Q ⟨ρ, h, ss, d, S, r, e, k⟩ => by
  unfold gTuple at e
  split at e
  · rename_i s
    obtain ⟨x, rfl, ro⟩ := r.one
    obtain ⟨ds, e1, rfl⟩ := map_some e
    by_cases ht : s = .val (.tuple ds)
    · subst ht
      have r' : Rp X.K H (Mo C ρ) x (.tuple ds) := ro
      cases r' with
      | tup q a => exact ⟨_, _, rfl, .inr ⟨q.sq, k _ H (Ex.refl _ _ _) S (.tup q a)⟩⟩
    · have e2 : litems s h = some ds := by
        unfold items at e1
        unfold litems
        split at e1
        · exact e1
        · cases e1; exact absurd rfl ht
        · exact e1
        · exact e1
        · cases e1
      obtain ⟨a, vs, rfl, sq, ra⟩ := litems_rel S ro e2
      exact ⟨a, vs, rfl, .inl ⟨sq, fun p hp => k _ _ (Ex.laid S hp) (S.laid hp) (Rp.newTup S hp ra)⟩⟩
  · cases e
variable {Wx : WX} {x : Str} {p pos : Pos} {e : Expr} {es : List Expr} {f : Av} {id T : String} {g : GL}
theorem fe_callB (hc : CallR X (.builtin id) (rdC X.K C g)) (hg : Gl X x) (hm : X.mg x = none) (hv : bootBuiltins x = some (.builtin id)) (ha : FA X C Wx (e :: es) f) (hn : x ≠ "__name__" := by decide) (hdb : (x == ("__debug__" : Str)) = false := by decide)
    (he : starEach (e :: es) X.env = (false, eval e X.env) :: starEach es X.env := by rfl) (hpl : (backTo pos (starEach es X.env)).any (·.1) = false := by rfl) : FE X C Wx (.Call (.Name x p) (e :: es) [] pos) (cCB g f) :=
  PE.imp (pe_callB hc hg hm hv ha hn hdb he hpl) fun _ _ _ => rd.cb
theorem fe_callTy (hc : CallR X (.type T) (rdC X.K C g)) (hg : Gl X x) (hm : X.mg x = none) (hv : bootBuiltins x = some (.type T)) (ha : FA X C Wx (e :: es) f) (hn : x ≠ "__name__" := by decide) (hdb : (x == ("__debug__" : Str)) = false := by decide)
    (he : starEach (e :: es) X.env = (false, eval e X.env) :: starEach es X.env := by rfl) (hpl : (backTo pos (starEach es X.env)).any (·.1) = false := by rfl) : FE X C Wx (.Call (.Name x p) (e :: es) [] pos) (cCB g f) :=
  PE.imp (pe_callTy hc hg hm hv ha hn hdb he hpl) fun _ _ _ => rd.cb
end
/-! ### isinstance of data -/
def tyN (s : Sl) (h : Hs) : Option String := match s with
  | .val .none => some "NoneType"
  | .val (.bool _) => some "bool"
  | .val (.int _) => some "int"
  | .val (.str _) => some "str"
  | .val (.list _) => some "list"
  | .val (.tuple _) => some "tuple"
  | .val (.dict _) => some "dict"
  | .loc n => match h[n]? with
    | some (.lst _) => some "list"
    | _ => none
  | .inn n i => (inn? h n i).map fun _ => "list"
  | .exn _ => none
def isaN (c t : String) : Bool := (t == c) || (c == "int" && t == "bool")
def gIsa (c : String) : Sl → Hs → Option PyData := fun s h => (tyN s h).map fun t => .bool (isaN c t)
theorem tyN_rel {K : PySem.W.Frag} {C : Fc} {ρ : Fps} {H : Hp} {h : Hs} {v : V} {s : Sl} {t : String} (S : SimH K C ρ h H) (r : SlV K C ρ H v s) (e : tyN s h = some t) : TyX K H v (.type t) := by
  unfold tyN at e
  split at e
  · cases e; cases (show Rp K H (Mo C ρ) v .none from r); exact .base .non
  · cases e; rename_i b; cases (show Rp K H (Mo C ρ) v (.bool b) from r); exact .base (.bl _)
  · cases e; rename_i b; cases (show Rp K H (Mo C ρ) v (.int b) from r); exact .base (.int _)
  · cases e; rename_i b; cases (show Rp K H (Mo C ρ) v (.str b) from r); exact .base (.str _)
  · cases e; rename_i b
    cases (show Rp K H (Mo C ρ) v (.list b) from r) with
    | lst q a =>
      rcases q with ⟨q | ⟨o, q⟩, _⟩ | ⟨its, n, q, _⟩
      · exact .base (.lst q)
      · exact .base (.frz q)
      · exact .kList q rfl
  · cases e; rename_i b
    cases (show Rp K H (Mo C ρ) v (.tuple b) from r) with
    | tup q a =>
      rcases q with ⟨q | ⟨o, q⟩, _⟩ | ⟨o, its, n, q, c, _⟩
      · exact .base (.tup q)
      · exact .fTuple q
      · exact .kTuple q c
  · cases e; rename_i b
    cases (show Rp K H (Mo C ρ) v (.dict b) from r) with
    | dct ps q _ => exact .base (.dK q.1)
  · rename_i n
    obtain ⟨fp, a, e1, e2, rfl⟩ := r
    split at e
    · rename_i ds' e3
      cases e
      obtain ⟨_, vs, q, a⟩ := S.lst e1 e2 e3
      exact .base (.lst q)
    · cases e
  · rename_i n i
    obtain ⟨fp, a, e1, e2, rfl⟩ := r
    cases q0 : inn? h n i with
    | none => rw [q0] at e; cases e
    | some ds =>
      rw [q0] at e
      cases e
      obtain ⟨vs, q, ra⟩ := S.inn e1 e2 q0
      exact .base (.lst q)
  · cases e
theorem isaN_kit {c t : String} (hc : c ∈ ["int", "bool", "tuple", "str", "list"]) (ht : t ∈ ["NoneType", "bool", "int", "str", "list", "tuple", "dict"]) : kitB t c = some (isaN c t) := by
  have all : ∀ c ∈ ["int", "bool", "tuple", "str", "list"], ∀ t ∈ ["NoneType", "bool", "int", "str", "list", "tuple", "dict"], kitB t c = some (isaN c t) := by decide +kernel
  exact all c hc t ht
theorem tyN_mem {s : Sl} {h : Hs} {t : String} (e : tyN s h = some t) : t ∈ ["NoneType", "bool", "int", "str", "list", "tuple", "dict"] := by
  unfold tyN at e
  split at e <;> first | (cases e; decide) | (cases e) | skip
  · split at e <;> first | (cases e; decide) | (cases e)
  · rename_i n i
    cases q : inn? h n i with
    | none => rw [q] at e; cases e
    | some ds => rw [q] at e; cases e; exact (by decide : ("list" : String) ∈ ["NoneType", "bool", "int", "str", "list", "tuple", "dict"])
section
variable {X : Cx} {C : Fc} {Wx : WX} {x y : Str} {p q pos : Pos} {e : Expr} {f : Ev} {c : String}
/-- isinstance(e, c), c a built-in class by its name -/
theorem fe_isa (hcl : c ∈ ["int", "bool", "tuple", "str", "list"]) (hg : Gl X "isinstance") (hm : X.mg "isinstance" = none) (hg2 : Gl X y) (hm2 : X.mg y = none) (hv2 : bootBuiltins y = some (.type c)) (ha : FE X C Wx e f)
    (hn2 : y ≠ "__name__" := by decide) (hd2 : (y == ("__debug__" : Str)) = false := by decide)
    (hs1 : starEach (e :: [.Name y q]) X.env = (false, eval e X.env) :: starEach [.Name y q] X.env := by rfl) (hs2 : starEach (Expr.Name y q :: []) X.env = (false, eval (.Name y q) X.env) :: starEach [] X.env := by rfl)
    (hpl : (backTo pos (starEach [Expr.Name y q] X.env)).any (·.1) = false := by rfl) : FE X C Wx (.Call (.Name "isinstance" p) [e, .Name y q] [] pos) (cUn (gIsa c) f) := by
  have hA : PA X [e, .Name y q] (tCons (rd X.K X.mg C Wx (relE X.K C) f) (tCons (tC (.ty c)) tNil)) := pa_cons ha (pa_cons (pe_bltn (v := .ty c) hg2 hm2 hv2 rfl hn2 hd2) pa_nil hs2) hs1
  refine PE.imp (pe_callB call_isi hg hm (by decide +kernel) hA (by decide) (by decide) hs1 hpl) fun σ H Q pp => ?_
  refine rd.bind (f := f) (g := fun s env h => .give (gIsa c s h) h) pp fun ρ1 env h1 s v H1 S1 E1 r1 P1 => ?_
  obtain ⟨d, e1, k⟩ := P1.given
  obtain ⟨t, e2, rfl⟩ := map_some e1
  exact ⟨v, .ty c, .type t, .type c, isaN c t, rfl, .ty c, tyN_rel S1 r1 e2, kit_ty (isaN_kit hcl (tyN_mem e2)), k _ H1 (Ex.refl _ _ _) S1 (.bl _)⟩
end
/-! ### slices -/
def oNone : En → Hs → Rz (Option Int) := fun _ h => .ok none h
def oSome (f : Ev) : En → Hs → Rz (Option Int) := fun env h => (f env h).bind fun s h => match s with
  | .val (.int i) => .ok (some i) h
  | _ => .bad
def cutD (ds : List PyData) (lo hi : Option Int) : List PyData := (ds.drop (HT.sIx ds.length 0 lo)).take (HT.sIx ds.length ds.length hi - HT.sIx ds.length 0 lo)
def gCut (s : Sl) (lo hi : Option Int) (h : Hs) : Option PyData := match s with
  | .val (.tuple ds) => some (.tuple (cutD ds lo hi))
  | .val (.list ds) => some (.list (cutD ds lo hi))
  | .loc n => match h[n]? with
    | some (.lst ds) => some (.list (cutD ds lo hi))
    | _ => none
  | _ => none
def eSl (f : Ev) (lo hi : En → Hs → Rz (Option Int)) : Ev := fun env h => (f env h).bind fun s h => (lo env h).bind fun l h => (hi env h).bind fun u h => .give (gCut s l u h) h
section
variable {X : Cx} {C : Fc} {Wx : WX} {e : Expr} {f : Ev}
theorem fo_none : FO X C Wx none oNone := PO.imp po_none fun σ H Q ⟨ρ, env, h, S, E, P⟩ => P ρ none H (Ex.refl _ _ _) S rfl
theorem fo_some (ha : FE X C Wx e f) : FO X C Wx (some e) (oSome f) := PO.imp (po_some ha) fun σ H Q p => by
  refine rd.bind (f := f) (g := fun s env h => match s with
    | .val (.int i) => (.ok (some i) h : Rz (Option Int))
    | _ => .bad) p fun ρ1 env h1 s v H1 S1 E1 r1 P1 => ?_
  cases s with
  | loc n => exact P1.elim
  | inn n i => exact P1.elim
  | exn x => exact P1.elim
  | val d =>
    cases d with
    | int i =>
      cases (show Rp X.K H1 (Mo C ρ1) v (.int i) from r1)
      exact ⟨i, rfl, P1 ρ1 (some i) H1 (Ex.refl _ _ _) S1 rfl⟩
    | _ => exact P1.elim
theorem cut_rel {K : PySem.W.Frag} {H : Hp} {M : Ms} {vs : List V} {ds : List PyData} {lo hi : Option Int} (r : RpAll K H M vs ds) : RpAll K H M (cutV vs lo hi) (cutD ds lo hi) := by
  unfold cutV cutD
  rw [r.length]
  exact (r.drop _).take _
theorem cut_whole (ds : List PyData) (lo hi : Option Int) (h : HT.sIx ds.length 0 lo = 0 ∧ HT.sIx ds.length ds.length hi = ds.length) : cutD ds lo hi = ds := by
  unfold cutD
  rw [h.1, h.2]
  simp
def rSlD (K : PySem.W.Frag) (C : Fc) : V → Option Int → Option Int → Hp → VK → Prop := fun x lo hi H Q => ∃ ρ h s d, SimH K C ρ h H ∧ SlV K C ρ H x s ∧ gCut s lo hi h = some d ∧
  ∀ v H', Ex C ρ H ρ H' → SimH K C ρ h H' → Rp K H' (Mo C ρ) v d → Q v H'
theorem s_cut : SlR X (rSlD X.K C) := by
  intro pins s σ H x v vl vu lo hi sl Q I rx hs pl pu q
  refine (sl_tupA.or sl_list) pins s σ H x v vl vu lo hi sl Q I rx hs pl pu ?_
  obtain ⟨ρ, h, a, d, S, r, e, k⟩ := q
  unfold gCut at e
  split at e
  · rename_i ds
    cases e
    cases (show Rp X.K H (Mo C ρ) x (.tuple ds) from r) with
    | tup q ra =>
      refine .inl ⟨_, _, rfl, q.sq, fun w => k _ H (Ex.refl _ _ _) S ?_, fun w p hp => k _ _ (Ex.laid S hp) (S.laid hp) (Rp.newTup S hp (cut_rel ra))⟩
      rw [cut_whole ds lo hi (by rw [← ra.length]; exact w)]
      exact .tup q ra
  · rename_i ds
    cases e
    cases (show Rp X.K H (Mo C ρ) x (.list ds) from r) with
    | lst q ra => exact .inr ⟨_, _, rfl, q.sq, fun p hp => k _ _ (Ex.laid S hp) (S.laid hp) (Rp.newLst S hp (cut_rel ra))⟩
  · rename_i n
    obtain ⟨fp, a, e1, e2, rfl⟩ := r
    split at e
    · rename_i ds e3
      cases e
      obtain ⟨_, vs, q, ra⟩ := S.lst e1 e2 e3
      exact .inr ⟨a, vs, rfl, SqL.of q, fun p hp => k _ _ (Ex.laid S hp) (S.laid hp) (Rp.newLst S hp (cut_rel ra))⟩
    · cases e
  · cases e
theorem fe_slice {lo hi : Option Expr} {fl fh : En → Hs → Rz (Option Int)} {pos p2 : Pos} (he : FE X C Wx e f) (hl : FO X C Wx lo fl) (hu : FO X C Wx hi fh) : FE X C Wx (.Subscript e (.Slice lo hi none p2) pos) (eSl f fl fh) :=
  PE.imp (pe_slice s_cut he hl hu) fun σ H Q p => by
    refine rd.bind (f := f) (g := fun s env h => (fl env h).bind fun l h => (fh env h).bind fun u h => .give (gCut s l u h) h) p fun ρ1 env h1 s x H1 S1 E1 r1 P1 => ?_
    refine rd.of S1 E1 (Po.bind (r := fl env h1) P1 fun ρ2 h2 l y H2 _ x2 S2 r2 P2 => ?_)
    have e2 : y = l := r2
    subst e2
    refine rd.of S2 (E1.ex x2) (Po.bind (r := fh env h2) P2 fun ρ3 h3 u z H3 _ x3 S3 r3 P3 => ?_)
    have e3 : z = u := r3
    subst e3
    obtain ⟨d, e, k⟩ := P3.given
    exact ⟨ρ3, h3, s, d, S3, SlV.ex (x2.trans x3) r1, e, k⟩
end
end FL

namespace FL
open PySem PySem.Spec PyProof.Rows L2

/-! ### statements -/
def Rz.fl {α : Type} (r : Rz α) (env : En) (f : α → Hs → Fl) : Fl := match r with
  | .ok a h => f a h
  | .err x h => .err x env h
  | .bad => .bad
def PoS (K : PySem.W.Frag) (mg : Str → Option Value) (C : Fc) (Wx : WX) (D : Ends) (ρ : Fps) (H : Hp) : Fl → Prop
  | .next env' h' => ∀ (ρ' : Fps) (σ' : St) (H' : Hp), Stp (Mo C ρ) H (Mo C ρ') H' → SimH K C ρ' h' H' → EnvOk K C ρ' H' env' σ' → D.nx σ' H'
  | .ret s h' => ∀ (ρ' : Fps) (v : V) (H' : Hp), Stp (Mo C ρ) H (Mo C ρ') H' → SimH K C ρ' h' H' → SlV K C ρ' H' v s → D.rt v H'
  | .brk env' h' => ∀ (ρ' : Fps) (σ' : St) (H' : Hp), Stp (Mo C ρ) H (Mo C ρ') H' → SimH K C ρ' h' H' → EnvOk K C ρ' H' env' σ' → D.bk σ' H'
  | .cont env' h' => ∀ (ρ' : Fps) (σ' : St) (H' : Hp), Stp (Mo C ρ) H (Mo C ρ') H' → SimH K C ρ' h' H' → EnvOk K C ρ' H' env' σ' → D.ct σ' H'
  | .err x env' h' => ∀ (ρ' : Fps) (σ' : St) (H' : Hp) (cls : Value) (d : Option Addr), Stp (Mo C ρ) H (Mo C ρ') H' → SimH K C ρ' h' H' → EnvOk K C ρ' H' env' σ' → XnOk K mg H' (Mo C ρ') x cls d → Wx cls d σ' H'
  | .bad => False
def rdS (K : PySem.W.Frag) (mg : Str → Option Value) (C : Fc) (Wx : WX) (f : Sv) : TS := fun D σ H =>
  ∃ (ρ : Fps) (env : En) (h : Hs), SimH K C ρ h H ∧ EnvOk K C ρ H env σ ∧ PoS K mg C Wx D ρ H (f env h)
abbrev FS (X : Cx) (C : Fc) (Wx : WX) (st : Stmt) (f : Sv) : Prop := PS X st (rdS X.K X.mg C Wx f)
abbrev FSs (X : Cx) (C : Fc) (Wx : WX) (st : List Stmt) (f : Sv) : Prop := PSs X st (rdS X.K X.mg C Wx f)
section
variable {K : PySem.W.Frag} {mg : Str → Option Value} {C : Fc} {Wx : WX} {σ : St} {H : Hp} {D : Ends}
theorem PoS.stp {ρ ρ1 : Fps} {H1 : Hp} {r : Fl} (x : Stp (Mo C ρ) H (Mo C ρ1) H1) (p : PoS K mg C Wx D ρ H r) : PoS K mg C Wx D ρ1 H1 r := by
  cases r with
  | next e h => exact fun ρ' σ' H' s S E => p ρ' σ' H' (x.trans s) S E
  | ret e h => exact fun ρ' σ' H' s S E => p ρ' σ' H' (x.trans s) S E
  | brk e h => exact fun ρ' σ' H' s S E => p ρ' σ' H' (x.trans s) S E
  | cont e h => exact fun ρ' σ' H' s S E => p ρ' σ' H' (x.trans s) S E
  | err y e h => exact fun ρ' σ' H' c d s S E => p ρ' σ' H' c d (x.trans s) S E
  | bad => exact p
/-- an expression at the head of a statement -/
theorem rdS.bind {α β : Type} {r1 : Fps → Hp → β → α → Prop} {f : En → Hs → Rz α} {g : α → En → Hs → Fl} (p : rdS K mg C Wx (fun env h => (f env h).fl env fun a h => g a env h) D σ H) {R : β → Hp → Prop}
    (k : ∀ ρ1 env h1 a b H1, SimH K C ρ1 h1 H1 → EnvOk K C ρ1 H1 env σ → r1 ρ1 H1 b a → PoS K mg C Wx D ρ1 H1 (g a env h1) → R b H1) : rd K mg C Wx r1 f σ H R := by
  obtain ⟨ρ, env, h, S, E, P⟩ := p
  refine ⟨ρ, env, h, S, E, ?_⟩
  have P' : PoS K mg C Wx D ρ H ((f env h).fl env fun a h => g a env h) := P
  cases e : f env h with
  | ok a h1 =>
    intro ρ1 b H1 x S1 q
    rw [e] at P'
    exact k ρ1 env h1 a b H1 S1 (E.ex x) q (PoS.stp (r := g a env h1) x.stp P')
  | err y h1 =>
    rw [e] at P'
    exact fun ρ' H' cls d s S' q => P' ρ' σ H' cls d s.stp S' (E.ex s) q
  | bad => rw [e] at P'; exact P'
end
theorem PSs.one_ {X : Cx} {st : Stmt} {t : TS} (h : PS X st t) : PSs X [st] t := pss_one h
def sNil : Sv := fun env h => .next env h
def sSeq (f g : Sv) : Sv := fun env h => match f env h with
  | .next e h => g e h
  | r => r
def sExp (f : Ev) : Sv := fun env h => (f env h).fl env fun _ h => .next env h
def sRet (f : Ev) : Sv := fun env h => (f env h).fl env fun s h => .ret s h
def sIf (c : Tv) (f g : Sv) : Sv := fun env h => (c env h).fl env fun b h => if b = true then f env h else g env h
def sSet (i : Nat) (f : Ev) : Sv := fun env h => (f env h).fl env fun s h => .next (env.set i (some s)) h
def sNever : Sv := fun _ _ => .bad
section
variable {X : Cx} {C : Fc} {Wx : WX} {st : Stmt} {rest : List Stmt} {f g : Sv} {e : Expr} {fe : Ev} {pos : Pos}
theorem fss_nil : FSs X C Wx [] sNil := PSs.imp pss_nil fun D σ H ⟨ρ, env, h, S, E, P⟩ => P ρ σ H (Stp.refl _ _) S E
theorem fss_one (h : FS X C Wx st f) : FSs X C Wx [st] f := pss_one h
theorem fss_cons (h1 : FS X C Wx st f) (h2 : FSs X C Wx rest g) : FSs X C Wx (st :: rest) (sSeq f g) := PSs.imp (pss_cons h1 h2) fun D σ H ⟨ρ, env, h, S, E, P⟩ => by
  refine ⟨ρ, env, h, S, E, ?_⟩
  have P' : PoS X.K X.mg C Wx D ρ H (match f env h with
    | .next e h => g e h
    | r => r) := P
  cases q : f env h with
  | next e h1 =>
    rw [q] at P'
    exact fun ρ' σ' H' s S' E' => ⟨ρ', e, h1, S', E', PoS.stp (r := g e h1) s P'⟩
  | ret _ _ => rw [q] at P'; exact P'
  | brk _ _ => rw [q] at P'; exact P'
  | cont _ _ => rw [q] at P'; exact P'
  | err _ _ _ => rw [q] at P'; exact P'
  | bad => rw [q] at P'; exact P'
theorem fs_pass : FS X C Wx (.Pass pos) sNil := PS.imp ps_pass fun D σ H ⟨ρ, env, h, S, E, P⟩ => P ρ σ H (Stp.refl _ _) S E
theorem fs_doc {x j pos pos'} : FS X C Wx (.Expr (.Constant (.str x) j pos) pos') sNil := PS.imp ps_doc fun D σ H ⟨ρ, env, h, S, E, P⟩ => P ρ σ H (Stp.refl _ _) S E
theorem fs_brk : FS X C Wx (.Break pos) (fun env h => .brk env h) := PS.imp ps_break fun D σ H ⟨ρ, env, h, S, E, P⟩ => P ρ σ H (Stp.refl _ _) S E
theorem fs_cont : FS X C Wx (.Continue pos) (fun env h => .cont env h) := PS.imp ps_continue fun D σ H ⟨ρ, env, h, S, E, P⟩ => P ρ σ H (Stp.refl _ _) S E
theorem fs_never : FS X C Wx st sNever := PS.imp ps_never fun D σ H ⟨ρ, env, h, S, E, P⟩ => P
theorem fs_exp (he : FE X C Wx e fe) (hs : swapsWith e none pos.line X.env = pure false := by rfl) : FS X C Wx (.Expr e pos) (sExp fe) := PS.imp (ps_expr he hs) fun D σ H p =>
  rdS.bind (f := fe) (g := fun _ env h => .next env h) p fun ρ1 env h1 a b H1 S1 E1 r1 P1 => P1 ρ1 σ H1 (Stp.refl _ _) S1 E1
theorem fs_ret (he : FE X C Wx e fe) : FS X C Wx (.Return (some e) pos) (sRet fe) := PS.imp (ps_ret he) fun D σ H p =>
  rdS.bind (f := fe) (g := fun s env h => .ret s h) p fun ρ1 env h1 a b H1 S1 E1 r1 P1 => P1 ρ1 b H1 (Stp.refl _ _) S1 r1
theorem fs_retN : FS X C Wx (.Return none pos) (fun _ h => .ret (.val .none) h) := PS.imp ps_retN fun D σ H ⟨ρ, env, h, S, E, P⟩ => P ρ .non H (Stp.refl _ _) S Rp.non
theorem fs_if {c : Expr} {a b : List Stmt} {tc : Tv} (hc : FT X C Wx c tc) (ha : FSs X C Wx a f) (hb : FSs X C Wx b g) : FS X C Wx (.If c a b pos) (sIf tc f g) := PS.imp (ps_if hc ha hb) fun D σ H p =>
  rdS.bind (f := tc) (g := fun b env h => if b = true then f env h else g env h) p fun ρ1 env h1 a b H1 S1 E1 r1 P1 => by
    have e : b = a := r1
    subst e
    cases b with
    | true => exact ⟨ρ1, env, h1, S1, E1, P1⟩
    | false => exact ⟨ρ1, env, h1, S1, E1, P1⟩
theorem fs_set {i : Nat} {x : Str} {pos' : Pos} (hN : X.N.Nodup) (hi : X.N[i]? = some x) (hx : Loc X.env.scope x) (he : FE X C Wx e fe) (hs : swapsWith e (some (.Name x pos')) pos.line X.env = pure false := by rfl) (hf : X.fn x = true ∨ X.env.scope.names.lookup x = some .local := by first | exact .inl rfl | exact .inr rfl | assumption) :
    FS X C Wx (.Assign [.Name x pos'] e pos) (sSet i fe) := PS.imp (ps_set hN hi hx he hs hf) fun D σ H p =>
  rdS.bind (f := fe) (g := fun s env h => .next (env.set i (some s)) h) p fun ρ1 env h1 a b H1 S1 E1 r1 P1 => P1 ρ1 _ H1 (Stp.refl _ _) S1 (E1.set r1 i)
end

/-! ### targets -/
inductive Tg where
  | nm (i : Nat)
  | tp (ts : List Tg)
mutual
def Tg.put : Tg → PyData → En → Option En
  | .nm i, d, env => some (env.set i (some (.val d)))
  | .tp ts, .tuple ds, env => Tg.puts ts ds env
  | .tp _, _, _ => none
def Tg.puts : List Tg → List PyData → En → Option En
  | [], [], env => some env
  | t :: ts, d :: ds, env => match Tg.put t d env with
    | some e => Tg.puts ts ds e
    | none => none
  | _, _, _ => none
def Tg.slots : Tg → List Nat
  | .nm i => [i]
  | .tp ts => Tg.slotss ts
def Tg.slotss : List Tg → List Nat
  | [] => []
  | t :: ts => Tg.slots t ++ Tg.slotss ts
def Tg.rd (K : PySem.W.Frag) : Tg → TG
  | .nm i => gName i
  | .tp ts => gTup K ts.length (Tg.rds K ts)
def Tg.rds (K : PySem.W.Frag) : List Tg → TGs
  | [] => gNil
  | t :: ts => gCons (Tg.rd K t) (Tg.rds K ts)
end
abbrev FG (X : Cx) (e : Expr) (t : Tg) : Prop := PG X e (t.rd X.K)
abbrev FGs (X : Cx) (es : List Expr) (ts : List Tg) : Prop := PGs X es (Tg.rds X.K ts)
section
variable {X : Cx} {pos : Pos}
theorem fg_nm {i : Nat} {x : Str} (hN : X.N.Nodup) (hi : X.N[i]? = some x) (hx : Loc X.env.scope x) (hf : X.fn x = true ∨ X.env.scope.names.lookup x = some .local := by first | exact .inl rfl | exact .inr rfl | assumption) : FG X (.Name x pos) (.nm i) := pg_name hN hi hx hf
theorem fgs_nil : FGs X [] [] := pgs_nil
theorem fgs_cons {e : Expr} {es : List Expr} {t : Tg} {ts : List Tg} (h1 : FG X e t) (h2 : FGs X es ts) (hs : (assignEach (e :: es) X.env).map (·.2) = assign e X.env :: (assignEach es X.env).map (·.2) := by rfl) : FGs X (e :: es) (t :: ts) := pgs_cons h1 h2 hs
theorem fg_tp {es : List Expr} {k : Nat} {ts : List Tg} (hc : X.calm = true) (h : FGs X es ts) (hn : (assignEach es X.env).length = ts.length := by rfl) (hst : (assignEach es X.env).findIdx? (·.1) = none := by rfl) : FG X (.Tuple es k pos) (.tp ts) := pg_tup hc h hn hst
end
theorem wipe_get (σ : St) (k : Nat) : ∀ vs : List Nat, (wipe σ vs)[k]? = if k ∈ vs then (σ[k]?).map (fun _ => none) else σ[k]?
  | [] => by simp [wipe]
  | v :: vs => by
    show ((wipe σ vs).set v none)[k]? = _
    rw [List.getElem?_set]
    by_cases h : v = k
    · subst h
      rw [if_pos rfl, wipe_length, if_pos List.mem_cons_self]
      by_cases hv : v < σ.length
      · rw [if_pos hv, List.getElem?_eq_getElem hv]; rfl
      · rw [if_neg hv, List.getElem?_eq_none (by omega)]; rfl
    · rw [if_neg h, wipe_get σ k vs]
      by_cases hk : k ∈ vs
      · rw [if_pos hk, if_pos (List.mem_cons_of_mem _ hk)]
      · rw [if_neg hk, if_neg (fun z => by
          rcases List.mem_cons.mp z with z | z
          · exact h z.symm
          · exact hk z)]
theorem wipe_set {σ : St} {i : Nat} {o : Option V} {vs : List Nat} (h : i ∈ vs) : wipe (σ.set i o) vs = wipe σ vs := by
  refine List.ext_getElem? fun k => ?_
  rw [wipe_get, wipe_get]
  by_cases hk : k ∈ vs
  · rw [if_pos hk, if_pos hk]
    by_cases e : i = k
    · subst e
      rw [List.getElem?_set, if_pos rfl]
      by_cases hl : i < σ.length
      · rw [if_pos hl, List.getElem?_eq_getElem hl]; rfl
      · rw [if_neg hl, List.getElem?_eq_none (by omega)]
    · rw [List.getElem?_set_ne e]
  · rw [if_neg hk, if_neg hk]
    have : i ≠ k := fun z => hk (z ▸ h)
    rw [List.getElem?_set_ne this]
/-- what a target does to the slots -/
structure Put (K : PySem.W.Frag) (H : Hp) (M : Ms) (sl : List Nat) (env env' : En) (σ σ' : St) : Prop where
  wipe : ∀ vs : List Nat, (∀ i ∈ sl, i ∈ vs) → L2.wipe σ' vs = L2.wipe σ vs
  env : ∀ (C : Fc) (ρ : Fps), M = Mo C ρ → EnvOk K C ρ H env σ → EnvOk K C ρ H env' σ'
mutual
theorem Tg.ok {K : PySem.W.Frag} {H : Hp} {M : Ms} : ∀ (t : Tg) (v : V) (d : PyData) (σ : St) (env env' : En) (Q : St → Hp → Prop), Rp K H M v d → t.put d env = some env' → (∀ σ', Put K H M t.slots env env' σ σ' → Q σ' H) → t.rd K v σ H Q
  | .nm i, v, d, σ, env, env', Q, r, e, k => by
    have e' : some (env.set i (some (.val d))) = some env' := by simpa [Tg.put] using e
    cases e'
    show gName i v σ H Q
    refine k (σ.set i (some v)) ⟨fun vs h => wipe_set (h i (by simp [Tg.slots])), fun C ρ hM E => ?_⟩
    subst hM
    exact E.set (s := .val d) r i
  | .tp ts, v, d, σ, env, env', Q, r, e, k => by
    cases d with
    | tuple ds =>
      have e' : Tg.puts ts ds env = some env' := by simpa [Tg.put] using e
      cases r with
      | tup q ra =>
        have hl : ds.length = ts.length := Tg.puts_len ts ds env env' e'
        exact ⟨_, _, rfl, q.sq, by rw [ra.length]; exact hl, Tg.oks ts _ ds σ env env' Q ra e' fun σ' p => k σ' (by simpa [Tg.slots] using p)⟩
    | none => simp [Tg.put] at e
    | bool _ => simp [Tg.put] at e
    | int _ => simp [Tg.put] at e
    | str _ => simp [Tg.put] at e
    | list _ => simp [Tg.put] at e
    | dict _ => simp [Tg.put] at e
theorem Tg.oks {K : PySem.W.Frag} {H : Hp} {M : Ms} : ∀ (ts : List Tg) (vs : List V) (ds : List PyData) (σ : St) (env env' : En) (Q : St → Hp → Prop), RpAll K H M vs ds → Tg.puts ts ds env = some env' → (∀ σ', Put K H M (Tg.slotss ts) env env' σ σ' → Q σ' H) → Tg.rds K ts vs σ H Q
  | [], _, [], σ, env, env', Q, r, e, k => by
    cases r
    have e' : some env = some env' := by simpa [Tg.puts] using e
    cases e'
    exact ⟨rfl, k σ ⟨fun _ _ => rfl, fun _ _ _ E => E⟩⟩
  | t :: ts, _, d :: ds, σ, env, env', Q, r, e, k => by
    cases r with
    | cons r1 r2 =>
      cases q : Tg.put t d env with
      | none => simp [Tg.puts, q] at e
      | some e1 =>
        have e2 : Tg.puts ts ds e1 = some env' := by simpa [Tg.puts, q] using e
        refine ⟨_, _, rfl, Tg.ok t _ d σ env e1 _ r1 q fun σ1 p1 => Tg.oks ts _ ds σ1 e1 env' Q r2 e2 fun σ2 p2 => k σ2 ⟨fun vs h => ?_, fun C ρ hM E => p2.env C ρ hM (p1.env C ρ hM E)⟩⟩
        rw [p2.wipe vs fun i m => h i (by simp [Tg.slotss, m]), p1.wipe vs fun i m => h i (by simp [Tg.slotss, m])]
  | [], _, _ :: _, _, _, _, _, _, e, _ => by simp [Tg.puts] at e
  | _ :: _, _, [], _, _, _, _, _, e, _ => by simp [Tg.puts] at e
theorem Tg.puts_len : ∀ (ts : List Tg) (ds : List PyData) (env env' : En), Tg.puts ts ds env = some env' → ds.length = ts.length
  | [], [], _, _, _ => rfl
  | t :: ts, d :: ds, env, env', e => by
    cases q : Tg.put t d env with
    | none => simp [Tg.puts, q] at e
    | some e1 =>
      have e2 : Tg.puts ts ds e1 = some env' := by simpa [Tg.puts, q] using e
      rw [List.length_cons, List.length_cons, Tg.puts_len ts ds e1 env' e2]
  | [], _ :: _, _, _, e => by simp [Tg.puts] at e
  | _ :: _, [], _, _, e => by simp [Tg.puts] at e
end
/-- target = value -/
def sAsg (f : Ev) (t : Tg) : Sv := fun env h => (f env h).fl env fun s h => match s with
  | .val d => match t.put d env with
    | some e => .next e h
    | none => .bad
  | _ => .bad
section
variable {X : Cx} {C : Fc} {Wx : WX} {tg e : Expr} {fe : Ev} {t : Tg} {pos : Pos}
theorem fs_asg (he : FE X C Wx e fe) (hg : FG X tg t) (hs : swapsWithSole [tg] e pos.line X.env = pure false := by rfl) (hw : swappedStores [tg] e X.env = pure none := by rfl)
    (h1 : (assignEach [tg] X.env).map (·.2) = [assign tg X.env] := by rfl) : FS X C Wx (.Assign [tg] e pos) (sAsg fe t) := PS.imp (ps_asg he hg hs hw h1) fun D σ H p => by
  refine rdS.bind (f := fe) (g := fun s env h => match s with
    | .val d => match t.put d env with
      | some e => (.next e h : Fl)
      | none => .bad
    | _ => .bad) p fun ρ1 env h1 a b H1 S1 E1 r1 P1 => ?_
  cases a with
  | loc n => exact P1.elim
  | inn n i => exact P1.elim
  | exn x => exact P1.elim
  | val d =>
    cases q : t.put d env with
    | none =>
      have P2 : PoS X.K X.mg C Wx D ρ1 H1 (match t.put d env with
        | some e => (.next e h1 : Fl)
        | none => .bad) := P1
      rw [q] at P2
      exact P2.elim
    | some e1 =>
      have P2 : PoS X.K X.mg C Wx D ρ1 H1 (match t.put d env with
        | some e => (.next e h1 : Fl)
        | none => .bad) := P1
      rw [q] at P2
      exact Tg.ok t b d σ env e1 _ r1 q fun σ' p => P2 ρ1 σ' H1 (Stp.refl _ _) S1 (p.env C ρ1 rfl E1)
/-- a, b = x, y (two local names) -/
def sPar (i j : Nat) (f : Av) : Sv := fun env h => (f env h).fl env fun ss h => match ss with
  | [s, t] => .next ((env.set i (some s)).set j (some t)) h
  | _ => .bad
theorem fs_par {i j : Nat} {x y : Str} {a b : Expr} {f : Av} {px py pt : Pos} {kt k2 pt2} (hc : X.calm = true) (hN : X.N.Nodup) (hi : X.N[i]? = some x) (hj : X.N[j]? = some y) (hij : i ≠ j)
    (hx : X.env.scope.names.lookup x = some .local) (hy : X.env.scope.names.lookup y = some .local) (ha : FA X C Wx [a, b] f)
    (hw : swappedStores [.Tuple [.Name x px, .Name y py] kt pt] (.Tuple [a, b] k2 pt2) X.env = pure (some [x, y]))
    (hs : swapsWithSole [.Tuple [.Name x px, .Name y py] kt pt] (.Tuple [a, b] k2 pt2) pos.line X.env = pure false := by rfl) :
    FS X C Wx (.Assign [.Tuple [.Name x px, .Name y py] kt pt] (.Tuple [a, b] k2 pt2) pos) (sPar i j f) := PS.imp (ps_par hc hN hi hj hij hx hy ha hw hs) fun D σ H p => by
  refine rdS.bind (f := f) (g := fun ss env h => match ss with
    | [s, t] => (.next ((env.set i (some s)).set j (some t)) h : Fl)
    | _ => .bad) p fun ρ1 env h1 a b H1 S1 E1 r1 P1 => ?_
  match a, r1, P1 with
  | [s, t], r1, P1 =>
    obtain ⟨v, w, rfl, rv, rw'⟩ := SlVs.two r1
    exact ⟨v, w, rfl, P1 ρ1 _ H1 (Stp.refl _ _) S1 ((E1.set rv i).set rw' j)⟩
  | [], _, P1 => exact P1.elim
  | [_], _, P1 => exact P1.elim
  | _ :: _ :: _ :: _, _, P1 => exact P1.elim
def sPar3 (i j l : Nat) (f : Av) : Sv := fun env h => (f env h).fl env fun ss h => match ss with
  | [s, t, u] => .next (((env.set i (some s)).set j (some t)).set l (some u)) h
  | _ => .bad
/-- name op= e -/
def sAug (i : Nat) (g : G2) (f : Ev) : Sv := fun env h => match env[i]? with
  | some (some s) => (f env h).fl env fun t h => match g s t h with
    | some d => .next (env.set i (some (.val d))) h
    | none => .bad
  | _ => .bad
theorem fs_aug {i : Nat} {x : Str} {op : Operator} {g : G2} {pos' : Pos} (hN : X.N.Nodup) (hi : X.N[i]? = some x) (hx : Loc X.env.scope x) (he : FE X C Wx e fe) (ho : OpR X (inplaceOp op) (rd2 X.K C g)) (hf : X.fn x = true ∨ X.env.scope.names.lookup x = some .local := by first | exact .inl rfl | exact .inr rfl | assumption) :
    FS X C Wx (.AugAssign (.Name x pos') op e pos) (sAug i g fe) := PS.imp (ps_aug hN hi hx he ho hf) fun D σ H ⟨ρ, env, h, S, E, P⟩ => by
  have P' : PoS X.K X.mg C Wx D ρ H (match env[i]? with
    | some (some s) => (fe env h).fl env fun t h => match g s t h with
      | some d => (.next (env.set i (some (.val d))) h : Fl)
      | none => .bad
    | _ => .bad) := P
  split at P'
  · rename_i s q
    obtain ⟨v, e1, r⟩ := E.at_ i s q
    refine ⟨v, e1, ρ, env, h, S, E, ?_⟩
    cases z : fe env h with
    | bad => rw [z] at P'; exact P'
    | err y h1 =>
      rw [z] at P'
      exact fun ρ' H' cls d s S' q => P' ρ' σ H' cls d s.stp S' (E.ex s) q
    | ok t h1 =>
      rw [z] at P'
      intro ρ1 y H1 x1 S1 r1
      have P2 : PoS X.K X.mg C Wx D ρ H (match g s t h1 with
        | some d => (.next (env.set i (some (.val d))) h1 : Fl)
        | none => .bad) := P'
      cases z2 : g s t h1 with
      | none => rw [z2] at P2; exact P2.elim
      | some d =>
        rw [z2] at P2
        exact ⟨ρ1, h1, s, t, d, S1, SlV.ex x1 r, r1, z2, fun w H2 x2 S2 r2 => P2 ρ1 _ H2 (x1.stp.trans x2.stp) S2 (((E.ex x1).ex x2).set (s := .val d) r2 i)⟩
  · exact P'.elim
theorem io_addI : OpR X (inplaceOp .Add) (rd2 X.K C (gI fAdd)) := o_int iop_add (fun i j d H Q e k => by cases e; exact ⟨i, j, rfl, rfl, k _ (.int _)⟩) (fun i j d e H M M' v r => by cases e; exact sc_int r)
theorem io_sub : OpR X (inplaceOp .Sub) (rd2 X.K C (gI fSub)) := o_int iop_sub (fun i j d H Q e k => by cases e; exact ⟨i, j, rfl, rfl, k _ (.int _)⟩) (fun i j d e H M M' v r => by cases e; exact sc_int r)
end
end FL

namespace FL
open PySem PySem.Spec PyProof.Rows L2

/-! ### what is walked -/
/-- the iterator gives the items ds, one by one, as long as nothing but M is changed -/
structure Gvs (K : PySem.W.Frag) (J : It) (ds : List PyData) (M : Ms) (H0 : Hp) : Prop where
  go : ∀ (M' : Ms) (H : Hp) (i : Nat) (d : PyData), Stp M H0 M' H → ds[i]? = some d → J.go i H
  yld : ∀ (M' : Ms) (H : Hp) (i : Nat) (d : PyData) (x : V) (H' : Hp), Stp M H0 M' H → ds[i]? = some d → J.yld i H x H' → (H' = H ∧ Rp K H M' x d) ∨ ∃ T vs es, H T = none ∧ H' = upd H T (.tup vs) ∧ x = .ref T ∧ d = .tuple es ∧ RpAll K H M' vs es
  stop : ∀ (M' : Ms) (H : Hp) (i : Nat), Stp M H0 M' H → ds.length ≤ i → J.stop i H
abbrev relI (K : PySem.W.Frag) (C : Fc) : Fps → Hp → It → List PyData → Prop := fun ρ H J ds => Gvs K J ds (Mo C ρ) H
abbrev FI (X : Cx) (C : Fc) (Wx : WX) (tg iter : Expr) (f : En → Hs → Rz (List PyData)) : Prop := PI X tg iter (rd X.K X.mg C Wx (relI X.K C) f)
theorem PI.imp {X : Cx} {tg e : Expr} {t t' : TI} (h : PI X tg e t) (i : ∀ σ H Q, t' σ H Q → t σ H Q) : PI X tg e t' := ⟨fun pins s σ H Q I q => h.run pins s σ H Q I (i σ H Q q)⟩
theorem PI.two {X : Cx} {tg e : Expr} {t t' u : TI} (h : PI X tg e t) (h' : PI X tg e t') (i : ∀ σ H Q, u σ H Q → t σ H Q ∨ t' σ H Q) : PI X tg e u := ⟨fun pins s σ H Q I q => by
  rcases i σ H Q q with z | z
  · exact h.run pins s σ H Q I z
  · exact h'.run pins s σ H Q I z⟩
theorem Gvs.step {K : PySem.W.Frag} {C : Fc} {J : It} {ds : List PyData} {M : Ms} {H0 : Hp} (G : Gvs K J ds M H0) {ρ : Fps} {h : Hs} {H H' : Hp} {i : Nat} {d : PyData} {x : V} (st : Stp M H0 (Mo C ρ) H) (S : SimH K C ρ h H) (e : ds[i]? = some d) (y : J.yld i H x H') :
    SimH K C ρ h H' ∧ Ex C ρ H ρ H' ∧ Rp K H' (Mo C ρ) x d := by
  rcases G.yld _ H i d x H' st e y with ⟨rfl, r⟩ | ⟨T, vs, es, hT, rfl, rfl, rfl, r⟩
  · exact ⟨S, Ex.refl _ _ _, r⟩
  · exact ⟨S.laid hT, Ex.laid S hT, Rp.newTup S hT r⟩
/-- the items of a list or tuple that is data -/
def srcSeq (f : Ev) : En → Hs → Rz (List PyData) := fun env h => (f env h).bind fun s h => match s with
  | .val (.list ds) => .ok ds h
  | .val (.tuple ds) => .ok ds h
  | _ => .bad
section
variable {X : Cx} {C : Fc} {Wx : WX} {tg l : Expr} {f : Ev}
theorem gvs_list {K : PySem.W.Frag} {H : Hp} {M : Ms} {a : Addr} {xs : List V} {ds : List PyData} (q : QL K H M a xs) (r : RpAll K H M xs ds) : Gvs K (Itl K a) ds M H where
  go := fun M' H' i d s e => by
    obtain ⟨v, ev, _⟩ := r.get e
    exact ⟨xs, v, (q.stp s).sq, ev⟩
  yld := fun M' H' i d x H'' s e y => by
    obtain ⟨rfl, hy⟩ := y
    obtain ⟨v, ev, rv⟩ := r.get e
    have := hy xs (q.stp s).sq
    rw [ev] at this; cases this
    exact .inl ⟨rfl, rv.stp s⟩
  stop := fun M' H' i s hl => ⟨xs, (q.stp s).sq, by rw [r.length]; exact hl⟩
theorem gvs_tup {K : PySem.W.Frag} {H : Hp} {M : Ms} {a : Addr} {xs : List V} {ds : List PyData} (q : QT K H M a xs) (r : RpAll K H M xs ds) : Gvs K (Itt K a) ds M H where
  go := fun M' H' i d s e => by
    obtain ⟨v, ev, _⟩ := r.get e
    exact ⟨xs, v, (q.stp s).sq, ev⟩
  yld := fun M' H' i d x H'' s e y => by
    obtain ⟨rfl, hy⟩ := y
    obtain ⟨v, ev, rv⟩ := r.get e
    have := hy xs (q.stp s).sq
    rw [ev] at this; cases this
    exact .inl ⟨rfl, rv.stp s⟩
  stop := fun M' H' i s hl => ⟨xs, (q.stp s).sq, by rw [r.length]; exact hl⟩
theorem fi_seq (ha : FE X C Wx l f) : FI X C Wx tg l (srcSeq f) := by
  refine PI.two (pi_list ha) (pi_tup ha) fun σ H R ⟨ρ, env, h, S, E, P⟩ => ?_
  have P' : Po X.K X.mg C Wx σ ρ H (relI X.K C) ((f env h).bind fun s h => match s with
    | .val (.list ds) => (.ok ds h : Rz (List PyData))
    | .val (.tuple ds) => .ok ds h
    | _ => .bad) R := P
  cases e : f env h with
  | bad => rw [e] at P'; exact P'.elim
  | err y h1 => rw [e] at P'; exact .inl ⟨ρ, env, h, S, E, by rw [e]; exact P'⟩
  | ok s h1 =>
    rw [e] at P'
    match s, P' with
    | .val (.list ds), P' =>
      refine .inl ⟨ρ, env, h, S, E, ?_⟩
      rw [e]
      intro ρ1 v H1 x1 S1 r1
      cases (show Rp X.K H1 (Mo C ρ1) v (.list ds) from r1) with
      | lst q ra => exact ⟨_, rfl, ⟨_, q.sq⟩, P' ρ1 _ H1 x1 S1 (gvs_list q ra)⟩
    | .val (.tuple ds), P' =>
      refine .inr ⟨ρ, env, h, S, E, ?_⟩
      rw [e]
      intro ρ1 v H1 x1 S1 r1
      cases (show Rp X.K H1 (Mo C ρ1) v (.tuple ds) from r1) with
      | tup q ra => exact ⟨_, rfl, ⟨_, q.sq⟩, P' ρ1 _ H1 x1 S1 (gvs_tup q ra)⟩
    | .val .none, P' => exact P'.elim
    | .val (.bool _), P' => exact P'.elim
    | .val (.int _), P' => exact P'.elim
    | .val (.str _), P' => exact P'.elim
    | .val (.dict _), P' => exact P'.elim
    | .loc _, P' => exact P'.elim
    | .inn _ _, P' => exact P'.elim
    | .exn _, P' => exact P'.elim
/-- range(n), range(a, b) -/
def upTo (lo : Int) (n : Nat) : List PyData := (List.range n).map fun (k : Nat) => .int (lo + (k : Int))
def rngOk (i : Int) : Bool := decide (-(2 ^ 62) ≤ i ∧ i < 2 ^ 62)
def srcRng1 (f : Av) : En → Hs → Rz (List PyData) := fun env h => (f env h).bind fun ss h => match ss with
  | [.val (.int j)] => if rngOk j then .ok (upTo 0 j.toNat) h else .bad
  | _ => .bad
def srcRng2 (f : Av) : En → Hs → Rz (List PyData) := fun env h => (f env h).bind fun ss h => match ss with
  | [.val (.int i), .val (.int j)] => if rngOk i && rngOk j then .ok (upTo i (j - i).toNat) h else .bad
  | _ => .bad
theorem upTo_get {lo : Int} {n i : Nat} {d : PyData} (e : (upTo lo n)[i]? = some d) : i < n ∧ d = .int (lo + i) := by
  unfold upTo at e
  rw [List.getElem?_map] at e
  by_cases h : i < n
  · rw [List.getElem?_range h] at e
    cases e
    exact ⟨h, rfl⟩
  · rw [List.getElem?_eq_none (by rw [List.length_range]; omega)] at e
    cases e
theorem upTo_len (lo : Int) (n : Nat) : (upTo lo n).length = n := by unfold upTo; simp
theorem gvs_rng {K : PySem.W.Frag} {H : Hp} {M : Ms} (lo : Int) (n : Nat) : Gvs K (Itr lo n) (upTo lo n) M H where
  go := fun M' H' i d s e => (upTo_get e).1
  yld := fun M' H' i d x H'' s e y => by
    obtain ⟨rfl, rfl⟩ := y
    obtain ⟨_, rfl⟩ := upTo_get e
    exact .inl ⟨rfl, .int _⟩
  stop := fun M' H' i s hl => by
    rw [upTo_len] at hl
    exact hl
variable {a b : Expr} {fa : Av} {p pos : Pos}
theorem fi_rng1 (hg : Gl X "range") (hm : X.mg "range" = none) (ha : FA X C Wx [a] fa) (hs : starEach [a] X.env = [(false, eval a X.env)] := by rfl) : FI X C Wx tg (.Call (.Name "range" p) [a] [] pos) (srcRng1 fa) := PI.imp (pi_range1 hg hm ha hs) fun σ H R pp => by
  refine rd.bind (f := fa) (g := fun ss env h => match ss with
    | [.val (.int j)] => if rngOk j then (.ok (upTo 0 j.toNat) h : Rz (List PyData)) else .bad
    | _ => .bad) pp fun ρ1 env h1 ss vs H1 S1 E1 r1 P1 => ?_
  split at P1
  · rename_i j
    obtain ⟨x, rfl, rx⟩ := SlVs.one r1
    cases (show Rp X.K H1 (Mo C ρ1) x (.int j) from rx)
    split at P1
    · rename_i c
      have c' := of_decide_eq_true c
      exact ⟨j, rfl, c'.1, c'.2, P1 ρ1 _ H1 (Ex.refl _ _ _) S1 (gvs_rng 0 j.toNat)⟩
    · exact P1.elim
  · exact P1.elim
theorem fi_rng2 (hg : Gl X "range") (hm : X.mg "range" = none) (ha : FA X C Wx [a, b] fa) (hs : starEach [a, b] X.env = [(false, eval a X.env), (false, eval b X.env)] := by rfl) (hs2 : starEach [b] X.env = [(false, eval b X.env)] := by rfl) : FI X C Wx tg (.Call (.Name "range" p) [a, b] [] pos) (srcRng2 fa) := PI.imp (pi_range2 hg hm ha hs hs2) fun σ H R pp => by
  refine rd.bind (f := fa) (g := fun ss env h => match ss with
    | [.val (.int i), .val (.int j)] => if rngOk i && rngOk j then (.ok (upTo i (j - i).toNat) h : Rz (List PyData)) else .bad
    | _ => .bad) pp fun ρ1 env h1 ss vs H1 S1 E1 r1 P1 => ?_
  split at P1
  · rename_i i j
    obtain ⟨x, y, rfl, rx, ry⟩ := SlVs.two r1
    cases (show Rp X.K H1 (Mo C ρ1) x (.int i) from rx)
    cases (show Rp X.K H1 (Mo C ρ1) y (.int j) from ry)
    split at P1
    · rename_i c
      obtain ⟨c1, c2⟩ := Bool.and_eq_true_iff.mp c
      have c1' := of_decide_eq_true c1
      have c2' := of_decide_eq_true c2
      exact ⟨i, j, rfl, ⟨c1'.1, c1'.2, c2'.1, c2'.2⟩, P1 ρ1 _ H1 (Ex.refl _ _ _) S1 (gvs_rng i (j - i).toNat)⟩
    · exact P1.elim
  · exact P1.elim
end

/-! ### for -/
def cutE (n : Nat) (env : En) : En := env.map fun s => match s with
  | some (.loc k) => if k < n then some (.loc k) else none
  | some (.inn k i) => if k < n then some (.inn k i) else none
  | s => s
theorem cutE_ok {K : PySem.W.Frag} {C : Fc} {ρ : Fps} {H : Hp} {env : En} {σ : St} {n : Nat} (E : EnvOk K C ρ H env σ) : EnvOk K C (ρ.take n) H (cutE n env) σ := by
  refine ⟨by rw [← E.len]; unfold cutE; simp, fun i s e => ?_⟩
  unfold cutE at e
  rw [List.getElem?_map] at e
  cases q : env[i]? with
  | none => rw [q] at e; cases e
  | some o =>
    rw [q] at e
    cases o with
    | none => cases (show some (none : Slot) = some (some s) from e)
    | some t =>
      obtain ⟨v, e1, r⟩ := E.at_ i t q
      cases t with
      | val d =>
        have e' : some (some (Sl.val d)) = some (some s) := e
        cases e'
        exact ⟨v, e1, Rp.fewer (fun _ => Mo.take) r⟩
      | loc k =>
        have e' : some (if k < n then some (Sl.loc k) else none) = some (some s) := e
        split at e'
        · rename_i hk
          cases e'
          obtain ⟨fp, a, e2, e3, e4⟩ := r
          exact ⟨v, e1, fp, a, by rw [List.getElem?_take, if_pos hk]; exact e2, e3, e4⟩
        · cases e'
      | inn k j =>
        have e' : some (if k < n then some (Sl.inn k j) else none) = some (some s) := e
        split at e'
        · rename_i hk
          cases e'
          obtain ⟨fp, a, e2, e3, e4⟩ := r
          exact ⟨v, e1, fp, a, by rw [List.getElem?_take, if_pos hk]; exact e2, e3, e4⟩
        · cases e'
      | exn x =>
        have e' : some (some (Sl.exn x)) = some (some s) := e
        cases e'
        exact ⟨v, e1, r⟩
def loopF (t : Tg) (body : Sv) (n : Nat) : List PyData → En → Hs → Fl
  | [], env, h => .next env h
  | d :: ds, env, h => match t.put d env with
    | none => .bad
    | some e1 => match body e1 h with
      | .next e h => loopF t body n ds (cutE n e) (h.take n)
      | .cont e h => loopF t body n ds (cutE n e) (h.take n)
      | .brk e h => .next (cutE n e) (h.take n)
      | r => r
def sFor (src : En → Hs → Rz (List PyData)) (t : Tg) (body : Sv) : Sv := fun env h => (src env h).fl env fun ds h => loopF t body h.length ds env h
section
variable {X : Cx} {C : Fc} {Wx : WX} {tg iter c : Expr} {body : List Stmt} {src : En → Hs → Rz (List PyData)} {t : Tg} {fb : Sv} {tc : Tv} {pos : Pos}
theorem fs_for (hp : PassesOwn (model X.prog X.w) X.A X.env X.xe) (hc : X.calm = true) (hi : FI X C Wx tg iter src) (hg : FG X tg t) (hb : FSs X C Wx body fb)
    (hs : ∀ x, foldedSetIterable iter X.env x = pure x := by intro _; rfl) : FS X C Wx (.For tg iter body [] pos) (sFor src t fb) := PS.imp (ps_for hp hc hi hg hb hs) fun D σ H p => by
  refine rdS.bind (f := src) (g := fun ds env h => loopF t fb h.length ds env h) p fun ρ1 env1 h1 ds J H1 S1 E1 G P1 => ?_
  have hW0 : C.W.length ≤ h1.length := S1.wlen
  refine ⟨fun i m σ2 H2 => m = ds.length - i ∧ ∃ ρ2 env2 h2, SimH X.K C ρ2 h2 H2 ∧ EnvOk X.K C ρ2 H2 env2 σ2 ∧ Stp (Mo C ρ1) H1 (Mo C ρ2) H2 ∧ PoS X.K X.mg C Wx D ρ2 H2 (loopF t fb h1.length (ds.drop i) env2 h2),
    ⟨ds.length - 0, rfl, ρ1, env1, h1, S1, E1, Stp.refl _ _, P1⟩, fun i m σ2 H2 hW => ?_⟩
  obtain ⟨hm, ρ2, env2, h2, S2, E2, st, P2⟩ := hW
  by_cases hi' : i < ds.length
  · have ed : ds.drop i = ds[i] :: ds.drop (i + 1) := List.drop_eq_getElem_cons hi'
    have ei : ds[i]? = some ds[i] := List.getElem?_eq_getElem hi'
    rw [ed] at P2
    refine .inr ⟨G.go _ H2 i _ st ei, fun σ' H' => ∃ ρ3 env3 h3, SimH X.K C ρ3 h3 H' ∧ EnvOk X.K C ρ3 H' env3 σ' ∧ Stp (Mo C ρ1) H1 (Mo C ρ3) H' ∧ PoS X.K X.mg C Wx D ρ3 H' (loopF t fb h1.length (ds.drop (i + 1)) env3 h3), fun σ' H' hN => ?_, fun x H' y => ?_⟩
    · obtain ⟨ρ3, env3, h3, S3, E3, st3, P3⟩ := hN
      exact ⟨ds.length - (i + 1), by omega, rfl, ρ3, env3, h3, S3, E3, st3, P3⟩
    · obtain ⟨S3, x3, r3⟩ := G.step st S2 ei y
      have P3 : PoS X.K X.mg C Wx D ρ2 H2 (match t.put ds[i] env2 with
        | none => .bad
        | some e1 => match fb e1 h2 with
          | .next e h => loopF t fb h1.length (ds.drop (i + 1)) (cutE h1.length e) (h.take h1.length)
          | .cont e h => loopF t fb h1.length (ds.drop (i + 1)) (cutE h1.length e) (h.take h1.length)
          | .brk e h => .next (cutE h1.length e) (h.take h1.length)
          | r => r) := P2
      cases q : t.put ds[i] env2 with
      | none => rw [q] at P3; exact P3.elim
      | some e1 =>
        rw [q] at P3
        dsimp only at P3
        refine Tg.ok t x ds[i] σ2 env2 e1 _ r3 q fun σ3 pt => ⟨ρ2, e1, h2, S3, pt.env C ρ2 rfl (E2.ex x3), ?_⟩
        cases z : fb e1 h2 with
        | next e h =>
          rw [z] at P3
          exact fun ρ' σ' H'' s S E => ⟨ρ'.take h1.length, _, _, S.take _ hW0, cutE_ok E, (((st.trans x3.stp).trans s).trans (Stp.take _)), PoS.stp (r := loopF t fb h1.length (ds.drop (i + 1)) (cutE h1.length e) (h.take h1.length)) ((x3.stp.trans s).trans (Stp.take _)) P3⟩
        | cont e h =>
          rw [z] at P3
          exact fun ρ' σ' H'' s S E => ⟨ρ'.take h1.length, _, _, S.take _ hW0, cutE_ok E, (((st.trans x3.stp).trans s).trans (Stp.take _)), PoS.stp (r := loopF t fb h1.length (ds.drop (i + 1)) (cutE h1.length e) (h.take h1.length)) ((x3.stp.trans s).trans (Stp.take _)) P3⟩
        | brk e h =>
          rw [z] at P3
          exact fun ρ' σ' H'' s S E => P3 (ρ'.take h1.length) σ' H'' ((x3.stp.trans s).trans (Stp.take _)) (S.take _ hW0) (cutE_ok E)
        | ret s h => rw [z] at P3; exact PoS.stp (r := .ret s h) (D := D) x3.stp P3
        | err y e h => rw [z] at P3; exact PoS.stp (r := .err y e h) (D := D) x3.stp P3
        | bad => rw [z] at P3; exact P3.elim
  · have ed : ds.drop i = [] := List.drop_eq_nil_of_le (by omega)
    rw [ed] at P2
    exact .inl ⟨G.stop _ H2 i st (by omega), P2 ρ2 σ2 H2 (Stp.refl _ _) S2 E2⟩
/-! ### while -/
def loopW (c : Tv) (body : Sv) (n : Nat) : Nat → En → Hs → Fl
  | 0, _, _ => .bad
  | k + 1, env, h => (c env h).fl env fun b h => if b = true then (match body env h with
      | .next e h => loopW c body n k (cutE n e) (h.take n)
      | .cont e h => loopW c body n k (cutE n e) (h.take n)
      | .brk e h => .next (cutE n e) (h.take n)
      | r => r) else .next env h
def sWhile (k : Nat) (c : Tv) (body : Sv) : Sv := fun env h => loopW c body h.length k env h
theorem fs_while (k : Nat) (hp : PassesOwn (model X.prog X.w) X.A X.env X.xe) (hc : FT X C Wx c tc) (hb : FSs X C Wx body fb) : FS X C Wx (.While c body [] pos) (sWhile k tc fb) := PS.imp (ps_while hp hc hb) fun D σ H ⟨ρ0, env0, h0, S0, E0, P0⟩ => by
  have hW0 : C.W.length ≤ h0.length := S0.wlen
  refine ⟨fun m σ2 H2 => ∃ ρ2 env2 h2, SimH X.K C ρ2 h2 H2 ∧ EnvOk X.K C ρ2 H2 env2 σ2 ∧ PoS X.K X.mg C Wx D ρ2 H2 (loopW tc fb h0.length m env2 h2), ⟨k, ρ0, env0, h0, S0, E0, P0⟩, fun m σ2 H2 hW => ?_⟩
  obtain ⟨ρ2, env2, h2, S2, E2, P2⟩ := hW
  cases m with
  | zero => exact P2.elim
  | succ m =>
    refine rdS.bind (Wx := Wx) (mg := X.mg) (D := D) (f := tc) (g := fun b env h => if b = true then (match fb env h with
      | .next e h => loopW tc fb h0.length m (cutE h0.length e) (h.take h0.length)
      | .cont e h => loopW tc fb h0.length m (cutE h0.length e) (h.take h0.length)
      | .brk e h => .next (cutE h0.length e) (h.take h0.length)
      | r => r) else .next env h) ⟨ρ2, env2, h2, S2, E2, P2⟩ fun ρ3 env3 h3 b b' H3 S3 E3 r3 P3 => ?_
    have e : b' = b := r3
    subst e
    cases b' with
    | false =>
      rw [if_neg Bool.false_ne_true] at P3 ⊢
      exact P3 ρ3 σ2 H3 (Stp.refl _ _) S3 E3
    | true =>
      rw [if_pos rfl] at P3 ⊢
      refine ⟨fun σ' H' => ∃ ρ' env' h', SimH X.K C ρ' h' H' ∧ EnvOk X.K C ρ' H' env' σ' ∧ PoS X.K X.mg C Wx D ρ' H' (loopW tc fb h0.length m env' h'), fun σ' H' hN => ⟨m, by omega, hN⟩, ρ3, env3, h3, S3, E3, ?_⟩
      cases z : fb env3 h3 with
      | next e h =>
        rw [z] at P3
        exact fun ρ' σ' H'' s S E => ⟨ρ'.take h0.length, _, _, S.take _ hW0, cutE_ok E, PoS.stp (r := loopW tc fb h0.length m (cutE h0.length e) (h.take h0.length)) (s.trans (Stp.take _)) P3⟩
      | cont e h =>
        rw [z] at P3
        exact fun ρ' σ' H'' s S E => ⟨ρ'.take h0.length, _, _, S.take _ hW0, cutE_ok E, PoS.stp (r := loopW tc fb h0.length m (cutE h0.length e) (h.take h0.length)) (s.trans (Stp.take _)) P3⟩
      | brk e h =>
        rw [z] at P3
        exact fun ρ' σ' H'' s S E => P3 (ρ'.take h0.length) σ' H'' (s.trans (Stp.take _)) (S.take _ hW0) (cutE_ok E)
      | ret s h => rw [z] at P3; exact P3
      | err y e h => rw [z] at P3; exact P3
      | bad => rw [z] at P3; exact P3.elim
end

/-! ### changing lists of the def's own -/
abbrev GM := Sl → List Sl → Hs → Option (PyData × Hs)
def rdM (K : PySem.W.Frag) (C : Fc) (m : GM) : V → List V → Hp → VK → Prop := fun x xs H Q => ∃ ρ h s ss d h', SimH K C ρ h H ∧ SlV K C ρ H x s ∧ SlVs K C ρ H xs ss ∧ m s ss h = some (d, h') ∧
  ∀ v H', Ex C ρ H ρ H' → SimH K C ρ h' H' → Rp K H' (Mo C ρ) v d → Q v H'
def eMt (m : GM) (f : Ev) (fa : Av) : Ev := fun env h => (f env h).bind fun s h => if (litems s h).isSome = true then (fa env h).bind fun ss h => match m s ss h with
  | some (d, h') => .ok (.val d) h'
  | none => .bad else .bad
def mAppend : GM := fun s ss h => match s, ss with
  | .loc n, [.val d] => match h[n]? with
    | some (.lst ds) => if ds.length < 16777216 then some (.none, h.set n (.lst (ds ++ [d]))) else none
    | _ => none
  | _, _ => none
theorem MtR.imp {X : Cx} {id : String} {r r' : V → List V → Hp → VK → Prop} (h : MtR X id r) (i : ∀ x xs H Q, r' x xs H Q → r x xs H Q) : MtR X id r' := fun pins s σ H x xs v us Q I rx rs q => h pins s σ H x xs v us Q I rx rs (i _ _ _ _ q)
section
variable {X : Cx} {C : Fc} {Wx : WX} {o e : Expr} {es : List Expr} {f : Ev} {fa : Av} {name : Str} {apos cpos : Pos} {id : String} {m : GM}
theorem m_append : MtR X "list.append" (rdM X.K C mAppend) := MtR.imp mt_append fun x xs H Q ⟨ρ, h, s, ss, d, h', S, r1, r2, e, k⟩ => by
  unfold mAppend at e
  split at e
  · rename_i n d0
    split at e
    · rename_i ds e3
      split at e
      · rename_i hl
        cases e
        obtain ⟨fp, a, e1, e2, rfl⟩ := r1
        obtain ⟨y, rfl, ry⟩ := SlVs.one r2
        obtain ⟨e1', vs, q, ra⟩ := S.lst e1 e2 e3
        have W := S.write (ob := .lst (ds ++ [d0])) (o := .lst (vs ++ [y])) e1' ⟨a, _, rfl, upd_same, ?_⟩
        · exact ⟨a, vs, y, rfl, rfl, q, by rw [ra.length, sizeLine_eq]; exact hl, k .non _ W.2 W.1 .non⟩
        · have st : Stp (Mo C ρ) H (Mo C ρ) (upd H a (.lst (vs ++ [y]))) := ⟨keepE fun b u z nm => by
            have : b ≠ a := fun w => nm (w ▸ .inl (flat_at e1' (by simp)))
            rw [upd_ne this]; exact z, fun _ mm => .inl mm⟩
          exact (ra.stp st).append (.cons (Rp.stp st ry) .nil)
      · cases e
    · cases e
  · cases e
theorem fe_mt (slot : PySem.Slot "list" name id) (hty : typeOf (.builtin id) = pure (.type "method_descriptor")) (hm : MtR X id (rdM X.K C m)) (ho : FE X C Wx o f) (ha : FA X C Wx (e :: es) fa)
    (hbase : attributeBase o name X.env (eval o X.env) = eval o X.env := by rfl)
    (hfew : ((backTo cpos (starEach (e :: es) X.env)).all (fun x => !x.1) && (backToKw cpos (keywordEach [] X.env)).all (fun x => x.1.isSome)
      && decide ((e :: es).length + ([] : List Keyword).length + (if ([] : List Keyword).isEmpty then 0 else 1) < 30)) = true := by rfl)
    (hline : (apos.endLine == cpos.line) = true := by rfl) (hs : starEach (e :: es) X.env = (false, eval e X.env) :: starEach es X.env := by rfl) (hplain : (backTo cpos (starEach es X.env)).any (·.1) = false := by rfl) :
    FE X C Wx (.Call (.Attribute o name apos) (e :: es) [] cpos) (eMt m f fa) := PE.imp (pe_bm PySem.F.plainAttrs_list slot hty hm ho ha hbase hfew hline hs hplain) fun σ H Q p => by
  refine rd.bind (f := f) (g := fun s env h => if (litems s h).isSome = true then (fa env h).bind fun ss h => match m s ss h with
    | some (d, h') => (.ok (.val d) h' : Rz Sl)
    | none => .bad else .bad) p fun ρ1 env h1 s x H1 S1 E1 r1 P1 => ?_
  split at P1
  · rename_i hl
    obtain ⟨ds, el⟩ := Option.isSome_iff_exists.mp hl
    obtain ⟨a, vs, rfl, sq, ra⟩ := litems_rel S1 r1 el
    refine ⟨.inl ⟨rfl, _, sq⟩, rd.of S1 E1 (Po.bind (r := fa env h1) P1 fun ρ2 h2 ss xs H2 _ x2 S2 r2 P2 => ?_)⟩
    cases q : m s ss h2 with
    | none => rw [q] at P2; exact P2.elim
    | some dh =>
      obtain ⟨d, h'⟩ := dh
      rw [q] at P2
      exact ⟨ρ2, h2, s, ss, d, h', S2, SlV.ex x2 r1, r2, q, fun v H' x S r => P2 ρ2 v H' x S r⟩
  · exact P1.elim
/-! ### o[i] = e, o[i] += e -/
def putAt (s t u : Sl) (h : Hs) : Option Hs := match s, t, u with
  | .loc n, .val (.int i), .val d => match h[n]? with
    | some (.lst ds) => match ixN ds.length i with
      | some j => some (h.set n (.lst (ds.set j d)))
      | none => none
    | _ => none
  | _, _, _ => none
def sPut (fo fi fe : Ev) : Sv := fun env h => (fe env h).fl env fun u h => (fo env h).fl env fun s h => (fi env h).fl env fun t h => match putAt s t u h with
  | some h' => .next env h'
  | none => .bad
theorem put_rel {K : PySem.W.Frag} {ρ : Fps} {h h' : Hs} {H : Hp} {s t u : Sl} {x y v : V} {Q : Hp → Prop} (S : SimH K C ρ h H) (r1 : SlV K C ρ H x s) (r2 : SlV K C ρ H y t) (r3 : SlV K C ρ H v u) (e : putAt s t u h = some h')
    (k : ∀ H', Ex C ρ H ρ H' → SimH K C ρ h' H' → Q H') : rSetL x y v H Q := by
  unfold putAt at e
  split at e
  · rename_i n i d
    split at e
    · rename_i ds e3
      split at e
      · rename_i j e4
        cases e
        obtain ⟨fp, a, e1, e2, rfl⟩ := r1
        cases (show Rp K H (Mo C ρ) y (.int i) from r2)
        obtain ⟨e1', vs, q, ra⟩ := S.lst e1 e2 e3
        have st : Stp (Mo C ρ) H (Mo C ρ) (upd H a (.lst (vs.set j v))) := ⟨keepE fun b w z nm => by
          have : b ≠ a := fun w => nm (w ▸ .inl (flat_at e1' (by simp)))
          rw [upd_ne this]; exact z, fun _ mm => .inl mm⟩
        have W := S.write (ob := .lst (ds.set j d)) (o := .lst (vs.set j v)) e1' ⟨a, _, rfl, upd_same, (ra.stp st).set (Rp.stp st r3) j⟩
        exact ⟨a, vs, i, j, rfl, rfl, q, by rw [ra.length]; exact e4, k _ W.2 W.1⟩
      · cases e
    · cases e
  · cases e
variable {i : Expr} {fo fi fe : Ev} {pos tpos : Pos}
theorem fs_put (ho : FE X C Wx o fo) (hi : FE X C Wx i fi) (he : FE X C Wx e fe)
    (ha : ∀ v, assign (.Subscript o i tpos) X.env v = (do
      let ov ← holding [v] (eval o X.env)
      let iv ← holding [v, ov] (eval i X.env)
      standAt tpos
      holding [v, ov, iv] (setItem ov iv v)
      release [v, ov, iv] []) := by intro _; rfl)
    (hs : swapsWithSole [.Subscript o i tpos] e pos.line X.env = pure false := by rfl) (hw : swappedStores [.Subscript o i tpos] e X.env = pure none := by rfl)
    (h1 : (assignEach [.Subscript o i tpos] X.env).map (·.2) = [assign (.Subscript o i tpos) X.env] := by rfl) : FS X C Wx (.Assign [.Subscript o i tpos] e pos) (sPut fo fi fe) :=
  PS.imp (ps_asg he (pg_sub ho hi set_list ha) hs hw h1) fun D σ H p => by
    refine rdS.bind (f := fe) (g := fun u env h => (fo env h).fl env fun s h => (fi env h).fl env fun t h => match putAt s t u h with
      | some h' => (.next env h' : Fl)
      | none => .bad) p fun ρ1 env h1 u v H1 S1 E1 r1 P1 => ?_
    refine rd.of S1 E1 ?_
    have P1' : PoS X.K X.mg C Wx D ρ1 H1 ((fo env h1).fl env fun s h => (fi env h).fl env fun t h => match putAt s t u h with
      | some h' => (.next env h' : Fl)
      | none => .bad) := P1
    cases q1 : fo env h1 with
    | bad => rw [q1] at P1'; exact P1'
    | err y h2 => rw [q1] at P1'; exact fun ρ' H' cls d s S' q => P1' ρ' σ H' cls d s.stp S' (E1.ex s) q
    | ok s h2 =>
      rw [q1] at P1'
      intro ρ2 x H2 x2 S2 r2
      refine rd.of S2 (E1.ex x2) ?_
      have P2 : PoS X.K X.mg C Wx D ρ1 H1 ((fi env h2).fl env fun t h => match putAt s t u h with
        | some h' => (.next env h' : Fl)
        | none => .bad) := P1'
      cases q2 : fi env h2 with
      | bad => rw [q2] at P2; exact P2
      | err y h3 => rw [q2] at P2; exact fun ρ' H' cls d s S' q => P2 ρ' σ H' cls d (x2.stp.trans s.stp) S' ((E1.ex x2).ex s) q
      | ok t h3 =>
        rw [q2] at P2
        intro ρ3 y H3 x3 S3 r3
        have P3 : PoS X.K X.mg C Wx D ρ1 H1 (match putAt s t u h3 with
          | some h' => (.next env h' : Fl)
          | none => .bad) := P2
        cases q3 : putAt s t u h3 with
        | none => rw [q3] at P3; exact P3.elim
        | some h4 =>
          rw [q3] at P3
          exact put_rel S3 (SlV.ex x3 r2) r3 (SlV.ex (x2.trans x3) r1) q3 fun H4 x4 S4 => P3 ρ3 σ H4 ((x2.stp.trans x3.stp).trans x4.stp) S4 (((E1.ex x2).ex x3).ex x4)
/-- reading an item for an operator -/
theorem pget_list : PGet X (rIxL X.K) := by
  intro pins s σ H o i ov iv Q I ro ri h
  obtain ⟨p, xs, k, z, rfl, rfl, hq, he, q⟩ := h
  cases ro
  obtain ⟨t, rfl⟩ := ri
  obtain ⟨its, r, pl, hz⟩ := I.list hq
  obtain ⟨j, h1, h2, h3, h4, h5⟩ := atI_get he
  obtain ⟨w, ew, rw'⟩ := r.get h2
  have hl := r.length
  have hn := line63
  have fin : EP X pins σ Q w s := ⟨z, H, I, rw', q⟩
  by_cases h0 : 0 ≤ k
  · have hj : k.toNat = j := by
      rw [seqIndex_of h0 h5] at h1
      exact Option.some.inj h1
    exact wpAny_getItem_list pl.isList h0 (by omega) (by rw [hj]; simpa using ew) fin
  · have hj : (k + (its.toArray.size : Int)).toNat = j := by
      rw [seqIndex_neg (by omega) h4] at h1
      rw [List.size_toArray, ← hl]
      exact Option.some.inj h1
    exact wpAny_getItem_list_neg pl.isList (by omega) (by rw [List.size_toArray] <;> omega) (by omega) (by rw [hj]; simpa using ew) fin
def lix (s t : Sl) (h : Hs) : Option PyData := match litems s h, t with
  | some ds, .val (.int i) => atI ds i
  | _, _ => none
def sAugIx (g : G2) (fo fi fe : Ev) : Sv := fun env h => (fo env h).fl env fun s h => (fi env h).fl env fun t h => match lix s t h with
  | some x => (fe env h).fl env fun u h => match g (.val x) u h with
    | some d => match putAt s t (.val d) h with
      | some h' => .next env h'
      | none => .bad
    | none => .bad
  | none => .bad
theorem fs_augIx {op : Operator} {g : G2} (ho : FE X C Wx o fo) (hi : FE X C Wx i fi) (he : FE X C Wx e fe) (hop : OpR X (inplaceOp op) (rd2 X.K C g))
    (ha : ∀ ov iv new, augStore i ov iv new = (do holding [new, ov, iv] (setItem ov iv new); release [new, ov, iv] []; pure .next) := by intros; rfl) : FS X C Wx (.AugAssign (.Subscript o i tpos) op e pos) (sAugIx g fo fi fe) :=
  PS.imp (ps_augS ho hi pget_list he hop set_list ha) fun D σ H p => by
    refine rdS.bind (f := fo) (g := fun s env h => (fi env h).fl env fun t h => match lix s t h with
      | some x => (fe env h).fl env fun u h => match g (.val x) u h with
        | some d => match putAt s t (.val d) h with
          | some h' => (.next env h' : Fl)
          | none => .bad
        | none => .bad
      | none => .bad) p fun ρ1 env h1 s x H1 S1 E1 r1 P1 => ?_
    refine rd.of S1 E1 ?_
    have P1' : PoS X.K X.mg C Wx D ρ1 H1 ((fi env h1).fl env fun t h => match lix s t h with
      | some x => (fe env h).fl env fun u h => match g (.val x) u h with
        | some d => match putAt s t (.val d) h with
          | some h' => (.next env h' : Fl)
          | none => .bad
        | none => .bad
      | none => .bad) := P1
    cases q1 : fi env h1 with
    | bad => rw [q1] at P1'; exact P1'
    | err y h2 => rw [q1] at P1'; exact fun ρ' H' cls d s S' q => P1' ρ' σ H' cls d s.stp S' (E1.ex s) q
    | ok t h2 =>
      rw [q1] at P1'
      intro ρ2 y H2 x2 S2 r2
      have P2 : PoS X.K X.mg C Wx D ρ1 H1 (match lix s t h2 with
        | some x => (fe env h2).fl env fun u h => match g (.val x) u h with
          | some d => match putAt s t (.val d) h with
            | some h' => (.next env h' : Fl)
            | none => .bad
          | none => .bad
        | none => .bad) := P1'
      cases q2 : lix s t h2 with
      | none => rw [q2] at P2; exact P2.elim
      | some d0 =>
        rw [q2] at P2
        unfold lix at q2
        split at q2
        · rename_i ds k eds
          cases (show Rp X.K H2 (Mo C ρ2) y (.int k) from r2)
          obtain ⟨a, vs, ea, sq, ra⟩ := litems_rel S2 (SlV.ex x2 r1) eds
          subst ea
          obtain ⟨z, ez, rz⟩ := atI_rel ra q2
          refine ⟨a, vs, k, z, rfl, rfl, sq, ez, ?_⟩
          refine rd.of S2 (E1.ex x2) ?_
          have P3 : PoS X.K X.mg C Wx D ρ1 H1 ((fe env h2).fl env fun u h => match g (.val d0) u h with
            | some d => match putAt s (.val (.int k)) (.val d) h with
              | some h' => (.next env h' : Fl)
              | none => .bad
            | none => .bad) := P2
          cases q3 : fe env h2 with
          | bad => rw [q3] at P3; exact P3
          | err y h3 => rw [q3] at P3; exact fun ρ' H' cls d s S' q => P3 ρ' σ H' cls d (x2.stp.trans s.stp) S' ((E1.ex x2).ex s) q
          | ok u h3 =>
            rw [q3] at P3
            intro ρ3 w H3 x3 S3 r3
            have P4 : PoS X.K X.mg C Wx D ρ1 H1 (match g (.val d0) u h3 with
              | some d => match putAt s (.val (.int k)) (.val d) h3 with
                | some h' => (.next env h' : Fl)
                | none => .bad
              | none => .bad) := P3
            cases q4 : g (.val d0) u h3 with
            | none => rw [q4] at P4; exact P4.elim
            | some d1 =>
              rw [q4] at P4
              refine ⟨ρ3, h3, .val d0, u, d1, S3, Rp.stp x3.stp rz, r3, q4, fun v1 H4 x4 S4 r4 => ?_⟩
              have P5 : PoS X.K X.mg C Wx D ρ1 H1 (match putAt s (.val (.int k)) (.val d1) h3 with
                | some h' => (.next env h' : Fl)
                | none => .bad) := P4
              cases q5 : putAt s (.val (.int k)) (.val d1) h3 with
              | none => rw [q5] at P5; exact P5.elim
              | some h5 =>
                rw [q5] at P5
                exact put_rel (t := .val (.int k)) (u := .val d1) S4 (SlV.ex ((x2.trans x3).trans x4) r1) (Rp.int k) r4 q5 fun H5 x5 S5 => P5 ρ3 σ H5 (((x2.stp.trans x3.stp).trans x4.stp).trans x5.stp) S5 ((((E1.ex x2).ex x3).ex x4).ex x5)
        · cases q2
end
end FL

namespace FL
open PySem PySem.Spec PyProof.Rows L2

/-! ### list comprehensions -/
def wipeE (env : En) : List Nat → En
  | [] => env
  | v :: vs => (wipeE env vs).set v none
theorem wipeE_length (env : En) : ∀ vs : List Nat, (wipeE env vs).length = env.length
  | [] => rfl
  | v :: vs => by show ((wipeE env vs).set v none).length = _; rw [List.length_set, wipeE_length env vs]
theorem wipeE_get (env : En) (k : Nat) (s : Sl) : ∀ vs : List Nat, (wipeE env vs)[k]? = some (some s) → env[k]? = some (some s) ∧ k ∉ vs
  | [], e => ⟨e, by simp⟩
  | v :: vs, e => by
    have e' : ((wipeE env vs).set v none)[k]? = some (some s) := e
    by_cases h : v = k
    · subst h
      rw [List.getElem?_set, if_pos rfl] at e'
      split at e' <;> cases e'
    · rw [List.getElem?_set_ne h] at e'
      obtain ⟨a, b⟩ := wipeE_get env k s vs e'
      exact ⟨a, fun z => by
        rcases List.mem_cons.mp z with z | z
        · exact h z.symm
        · exact b z⟩
theorem wipe_wipe (σ : St) (vs : List Nat) : wipe (wipe σ vs) vs = wipe σ vs := by
  refine List.ext_getElem? fun k => ?_
  rw [wipe_get, wipe_get]
  by_cases hk : k ∈ vs
  · rw [if_pos hk, if_pos hk]
    cases σ[k]? <;> rfl
  · rw [if_neg hk]
section
variable {K : PySem.W.Frag} {C C' : Fc} {ρ : Fps} {H : Hp} {env : En} {σ : St}
theorem EnvOk.wiped (E : EnvOk K C ρ H env σ) (vs : List Nat) : EnvOk K C ρ H (wipeE env vs) (wipe σ vs) := by
  refine ⟨by rw [wipeE_length, wipe_length]; exact E.len, fun i s e => ?_⟩
  obtain ⟨e1, n⟩ := wipeE_get env i s vs e
  obtain ⟨v, e2, r⟩ := E.at_ i s e1
  exact ⟨v, by rw [wipe_get, if_neg n]; exact e2, r⟩
theorem SlV.cong (hb : C.Bar = C'.Bar) (hx : C.exc = C'.exc) {v : V} {s : Sl} (r : SlV K C ρ H v s) : SlV K C' ρ H v s := by
  have e : Mo C ρ = Mo C' ρ := by unfold Mo; rw [hb]
  cases s with
  | val d =>
    have r' : Rp K H (Mo C ρ) v d := r
    rw [e] at r'
    exact r'
  | loc n => exact r
  | inn n i => exact r
  | exn x =>
    obtain ⟨a, e1, e2⟩ := r
    exact ⟨a, by rw [← hx]; exact e1, e2⟩
theorem EnvOk.cong (hb : C.Bar = C'.Bar) (hx : C.exc = C'.exc) (E : EnvOk K C ρ H env σ) : EnvOk K C' ρ H env σ := ⟨E.len, fun i s e => let ⟨v, a, b⟩ := E.at_ i s e; ⟨v, a, SlV.cong hb hx b⟩⟩
theorem Ex.cong (hb : C.Bar = C'.Bar) {ρ1 : Fps} {H1 : Hp} (x : Ex C ρ H ρ1 H1) : Ex C' ρ H ρ1 H1 := by
  have e : ∀ ρ, Mo C ρ = Mo C' ρ := fun ρ => by unfold Mo; rw [hb]
  refine ⟨?_, x.root⟩
  rw [← e, ← e]
  exact x.stp
end
def tTrue : Tv := fun _ h => .ok true h
abbrev FTs (X : Cx) (C : Fc) (Wx : WX) (ifs : List Expr) (f : Tv) : Prop := PTs X ifs (rd X.K X.mg C Wx relT f)
theorem fts_nil {X : Cx} {C : Fc} {Wx : WX} : FTs X C Wx [] tTrue := ⟨fun pins s σ H Q I ⟨ρ, env, h, S, E, P⟩ => pts_nil.run pins s σ H Q I (P ρ true H (Ex.refl _ _ _) S rfl)⟩
theorem fts_one {X : Cx} {C : Fc} {Wx : WX} {c : Expr} {f : Tv} (h : FT X C Wx c f) : FTs X C Wx [c] f := pts_one h
abbrev W0 : WX := fun _ _ _ _ => False
def compL (t : Tg) (tt : Tv) (fe : Ev) (env : En) : List PyData → List PyData → Hs → Rz (List PyData)
  | [], acc, h => .ok acc h
  | d :: ds, acc, h => match t.put d env with
    | none => .bad
    | some e1 => match tt e1 h with
      | .ok true h => match fe e1 h with
        | .ok (.val x) h => if acc.length < 16777216 then compL t tt fe env ds (acc ++ [x]) h else .bad
        | _ => .bad
      | .ok false h => compL t tt fe env ds acc h
      | _ => .bad
def eComp (src : En → Hs → Rz (List PyData)) (t : Tg) (vs : List Nat) (tt : Tv) (fe : Ev) : Ev := fun env h => (src env h).bind fun ds h => (compL t tt fe (wipeE env vs) ds [] h).bind fun out h => .ok (.val (.list out)) h
/-- .. the list one of the def's own -/
def eCompN (src : En → Hs → Rz (List PyData)) (t : Tg) (vs : List Nat) (tt : Tv) (fe : Ev) : Ev := fun env h => (src env h).bind fun ds h => (compL t tt fe (wipeE env vs) ds [] h).bind fun out h => .ok (.loc h.length) (h ++ [.lst out])
section
variable {K : PySem.W.Frag} {mg : Str → Option Value} {C : Fc} {Wx : WX} {σ : St} {H : Hp}
/-- what stands between two turns of a comprehension -/
structure Mid (K : PySem.W.Frag) (C : Fc) (D : Addr) (ρ1 : Fps) (H1 : Hp) (env : En) (σ : St) (acc : List PyData) (ρ : Fps) (h : Hs) (H : Hp) (av : List V) : Prop where
  S : SimH K (C.plus D) ρ h H
  E : EnvOk K (C.plus D) ρ H env σ
  st : Stp (Mo C ρ1) H1 (Mo (C.plus D) ρ) H
  root : ∀ (n : Nat) (fp : List Addr), ρ1[n]? = some fp → ∃ fp' : List Addr, ρ[n]? = some fp' ∧ fp <+: fp'
  at_ : H D = some (.lst av)
  all : RpAll K H (Mo (C.plus D) ρ) av acc
theorem Mid.ex {D : Addr} {ρ1 ρ : Fps} {H1 H : Hp} {env : En} {acc : List PyData} {h : Hs} {av : List V} (M : Mid K C D ρ1 H1 env σ acc ρ h H av) : Ex C ρ1 H1 ρ H :=
  ⟨⟨M.st.keepK, fun b m => M.st.new b (Mo.unplus m)⟩, M.root⟩
theorem Mid.step {D : Addr} {ρ1 ρ ρ2 : Fps} {H1 H H2 : Hp} {env : En} {acc : List PyData} {h h2 : Hs} {av : List V} (M : Mid K C D ρ1 H1 env σ acc ρ h H av) (S2 : SimH K ((C.plus D).sub ρ H) ρ2 h2 H2) (x : Ex ((C.plus D).sub ρ H) ρ H ρ2 H2) :
    Mid K C D ρ1 H1 env σ acc ρ2 h2 H2 av := by
  have x' : Ex (C.plus D) ρ H ρ2 H2 := Ex.cong (C := (C.plus D).sub ρ H) (C' := C.plus D) rfl x
  refine ⟨M.S.backW S2, M.E.ex x', M.st.trans x'.stp, fun n fp e => ?_, S2.fr M.at_ (M.S.bar D (.inr rfl)).1 nt_lst, M.all.stp x'.stp⟩
  obtain ⟨fp1, e1, q1⟩ := M.root n fp e
  obtain ⟨fp2, e2, q2⟩ := x'.root n fp1 e1
  exact ⟨fp2, e2, q1.trans q2⟩
end
theorem lc_read {K : PySem.W.Frag} {mg : Str → Option Value} {C : Fc} {Wx : WX} {src : En → Hs → Rz (List PyData)} {t : Tg} {vs : List Nat} {tt : Tv} {fe : Ev} {σ : St} {H : Hp} {Q : VK} {g : List PyData → Hs → Rz Sl}
    (hsl : ∀ i ∈ t.slots, i ∈ vs) {rt : TT} {re : TE} (ht : ∀ C', C'.T = C.T → ∀ σ H Q, rd K mg C' W0 relT tt σ H Q → rt σ H Q) (he : ∀ C', C'.T = C.T → ∀ σ H Q, rd K mg C' W0 (relE K C') fe σ H Q → re σ H Q)
    (fin : ∀ (D : Addr) (ρ1 ρ : Fps) (H1 H : Hp) (env : En) (acc : List PyData) (h : Hs) (av : List V) (σ' : St) h1, SimH K C ρ1 h1 H1 → H1 D = none → Mid K C D ρ1 H1 env σ' acc ρ h H av → Po K mg C Wx σ ρ1 H1 (relE K C) (g acc h) Q → Q (.ref D) H)
    (p : rd K mg C Wx (relE K C) (fun env h => (src env h).bind fun ds h => (compL t tt fe (wipeE env vs) ds [] h).bind g) σ H Q) : tLc (rd K mg C Wx (relI K C) src) (t.rd K) rt re vs σ H Q := by
  refine rd.bind (f := src) (g := fun ds env h => (compL t tt fe (wipeE env vs) ds [] h).bind g) p fun ρ1 env1 h1 ds J H1 S1 E1 G P1 => ?_
  intro D hD
  have M0 : Mid K C D ρ1 H1 (wipeE env1 vs) (wipe σ vs) [] ρ1 h1 (upd H1 D (.lst [])) [] := by
    refine ⟨S1.plus hD, ⟨(E1.wiped vs).len, fun i s e => ?_⟩, Stp.plus hD, fun n fp e => ⟨fp, e, pfx_rfl⟩, upd_same, .nil⟩
    obtain ⟨v, e1, r⟩ := (E1.wiped vs).at_ i s e
    refine ⟨v, e1, ?_⟩
    cases s with
    | val d => exact Rp.stp (Stp.plus hD) r
    | loc n => exact r
    | inn n i => exact r
    | exn x => exact r
  refine ⟨fun i m H2 => m = ds.length - i ∧ ∃ ρ2 h2 acc av, Mid K C D ρ1 H1 (wipeE env1 vs) (wipe σ vs) acc ρ2 h2 H2 av ∧ Po K mg C Wx σ ρ1 H1 (relE K C) ((compL t tt fe (wipeE env1 vs) (ds.drop i) acc h2).bind g) Q,
    ⟨ds.length - 0, rfl, ρ1, h1, [], [], M0, P1⟩, fun i m H2 hW => ?_⟩
  · obtain ⟨hm, ρ2, h2, acc, av, M, P2⟩ := hW
    by_cases hi : i < ds.length
    · have ed : ds.drop i = ds[i] :: ds.drop (i + 1) := List.drop_eq_getElem_cons hi
      have ei : ds[i]? = some ds[i] := List.getElem?_eq_getElem hi
      rw [ed] at P2
      refine .inr ⟨G.go _ H2 i _ M.st ei, fun H' => ∃ ρ3 h3 acc av, Mid K C D ρ1 H1 (wipeE env1 vs) (wipe σ vs) acc ρ3 h3 H' av ∧ Po K mg C Wx σ ρ1 H1 (relE K C) ((compL t tt fe (wipeE env1 vs) (ds.drop (i + 1)) acc h3).bind g) Q, fun H' hN => ⟨ds.length - (i + 1), by omega, rfl, hN⟩, fun x H' y => ?_⟩
      obtain ⟨S3, x3, r3⟩ := G.step (C := C.plus D) M.st M.S ei y
      have M3 : Mid K C D ρ1 H1 (wipeE env1 vs) (wipe σ vs) acc ρ2 h2 H' av := by
        have hat : H' D = some (.lst av) := by
          rcases G.yld _ H2 i _ x H' M.st ei y with ⟨rfl, _⟩ | ⟨T, ws, es, hT, rfl, _⟩
          · exact M.at_
          · rw [upd_ne (ne_of_none M.at_ hT)]; exact M.at_
        exact ⟨S3, M.E.ex x3, M.st.trans x3.stp, M.root, hat, M.all.stp x3.stp⟩
      have P3 : Po K mg C Wx σ ρ1 H1 (relE K C) ((match t.put ds[i] (wipeE env1 vs) with
        | none => .bad
        | some e1 => match tt e1 h2 with
          | .ok true h => match fe e1 h with
            | .ok (.val x) h => if acc.length < 16777216 then compL t tt fe (wipeE env1 vs) (ds.drop (i + 1)) (acc ++ [x]) h else .bad
            | _ => .bad
          | .ok false h => compL t tt fe (wipeE env1 vs) (ds.drop (i + 1)) acc h
          | _ => .bad : Rz (List PyData)).bind g) Q := P2
      cases q : t.put ds[i] (wipeE env1 vs) with
      | none => rw [q] at P3; exact P3.elim
      | some e1 =>
        rw [q] at P3
        dsimp only at P3
        refine Tg.ok t x ds[i] (wipe σ vs) (wipeE env1 vs) e1 _ r3 q fun σ3 pt => ⟨by rw [pt.wipe vs hsl, wipe_wipe], ?_⟩
        have E3 : EnvOk K (C.plus D) ρ2 H' e1 σ3 := pt.env (C.plus D) ρ2 rfl M3.E
        refine ht ((C.plus D).sub ρ2 H') rfl σ3 H' _ (rd.of S3.sub (EnvOk.cong (C := C.plus D) (C' := (C.plus D).sub ρ2 H') rfl rfl E3) ?_)
        cases z : tt e1 h2 with
        | bad => rw [z] at P3; exact P3.elim
        | err _ _ => rw [z] at P3; exact P3.elim
        | ok b h4 =>
          rw [z] at P3
          intro ρ4 b' H4 x4 S4 eb
          have eb' : b' = b := eb
          subst eb'
          have M4 := M3.step S4 x4
          have x4' : Ex (C.plus D) ρ2 H' ρ4 H4 := Ex.cong (C := (C.plus D).sub ρ2 H') (C' := C.plus D) rfl x4
          cases b' with
          | false =>
            rw [if_neg Bool.false_ne_true]
            exact ⟨ρ4, h4, acc, av, M4, P3⟩
          | true =>
            rw [if_pos rfl]
            dsimp only at P3
            refine he ((C.plus D).sub ρ4 H4) rfl σ3 H4 _ (rd.of M4.S.sub (EnvOk.cong (C := C.plus D) (C' := (C.plus D).sub ρ4 H4) rfl rfl (E3.ex x4')) ?_)
            cases w : fe e1 h4 with
            | bad => rw [w] at P3; exact P3.elim
            | err _ _ => rw [w] at P3; exact P3.elim
            | ok s5 h5 =>
              rw [w] at P3
              cases s5 with
              | loc n => exact P3.elim
              | inn n i => exact P3.elim
              | exn x => exact P3.elim
              | val x5 =>
                intro ρ5 y5 H5 x5' S5 r5
                have M5 := M4.step S5 x5'
                have P4 : Po K mg C Wx σ ρ1 H1 (relE K C) ((if acc.length < 16777216 then compL t tt fe (wipeE env1 vs) (ds.drop (i + 1)) (acc ++ [x5]) h5 else .bad : Rz (List PyData)).bind g) Q := P3
                split at P4
                · rename_i hl
                  have bD : (C.plus D).Bar D := .inr rfl
                  have n0 : (C.plus D).H0 D = none := by
                    cases q0 : C.H0 D with
                    | none => exact q0
                    | some o =>
                      by_cases hw : D ∈ C.W.flatten
                      · obtain ⟨o', e'⟩ := S1.wtr D hw
                        rw [hD] at e'; cases e'
                      · obtain ⟨o', e', _⟩ := S1.frK D o q0 hw
                        rw [hD] at e'; cases e'
                  have r5' : Rp K H5 (Mo (C.plus D) ρ5) y5 x5 := r5
                  have sp := Stp.poke (C := C.plus D) (ρ := ρ5) (H := H5) (o := .lst (av ++ [y5])) bD
                  refine ⟨av, M5.at_, by rw [M5.all.length, sizeLine_eq]; exact hl, ρ5, h5, acc ++ [x5], av ++ [y5], ⟨M5.S.poke bD n0 M5.at_ nte_lst, ?_, M5.st.trans sp, M5.root, upd_same, (M5.all.stp sp).append (.cons (Rp.stp sp r5') .nil)⟩, P4⟩
                  exact M5.E.ex ⟨sp, fun n fp e => ⟨fp, e, pfx_rfl⟩⟩
                · exact P4.elim
    · have ed : ds.drop i = [] := List.drop_eq_nil_of_le (by omega)
      rw [ed] at P2
      exact .inl ⟨G.stop _ H2 i M.st (by omega), fin D ρ1 ρ2 H1 H2 _ acc h2 av _ h1 S1 hD M P2⟩
section
variable {X : Cx} {C : Fc} {Wx : WX} {elt tg iter : Expr} {ifs : List Expr} {scope : Scope} {own : List (Str × Nat)} {pos : Pos} {src : En → Hs → Rz (List PyData)} {t : Tg} {tt : Tv} {fe : Ev}
theorem lc_val {K : PySem.W.Frag} {mg : Str → Option Value} {σ : St} {Q : VK} (D : Addr) (ρ1 ρ : Fps) (H1 H : Hp) (env : En) (acc : List PyData) (h : Hs) (av : List V) (σ' : St) (h1 : Hs) (S1 : SimH K C ρ1 h1 H1) (hD : H1 D = none) (M : Mid K C D ρ1 H1 env σ' acc ρ h H av)
    (P : Po K mg C Wx σ ρ1 H1 (relE K C) (.ok (.val (.list acc)) h) Q) : Q (.ref D) H := by
  have nb : ¬ C.Bar D := fun b => by
    obtain ⟨_, o, e⟩ := S1.bar D b
    rw [hD] at e; cases e
  refine P ρ (.ref D) H M.ex M.S.unplus (.lst (.inl ⟨.inl M.at_, fun m => ?_⟩) (M.all.fewer fun _ => Mo.unplus))
  rcases m with m | m
  · exact (M.S.bar D (.inr rfl)).1 m
  · exact nb m
theorem lc_loc {K : PySem.W.Frag} {mg : Str → Option Value} {σ : St} {Q : VK} (D : Addr) (ρ1 ρ : Fps) (H1 H : Hp) (env : En) (acc : List PyData) (h : Hs) (av : List V) (σ' : St) (h1 : Hs) (S1 : SimH K C ρ1 h1 H1) (hD : H1 D = none) (M : Mid K C D ρ1 H1 env σ' acc ρ h H av)
    (P : Po K mg C Wx σ ρ1 H1 (relE K C) (.ok (.loc h.length) (h ++ [.lst acc])) Q) : Q (.ref D) H := by
  have nb : ¬ C.Bar D := fun b => by
    obtain ⟨_, o, e⟩ := S1.bar D b
    rw [hD] at e; cases e
  have n0 : C.H0 D = none := by
    cases q0 : C.H0 D with
    | none => rfl
    | some o =>
      by_cases hw : D ∈ C.W.flatten
      · obtain ⟨o', e'⟩ := S1.wtr D hw
        rw [hD] at e'; cases e'
      · obtain ⟨o', e', _⟩ := S1.frK D o q0 hw
        rw [hD] at e'; cases e'
  have S := M.S.adopt (ob := .lst acc) n0 nb ⟨D, av, rfl, M.at_, M.all⟩
  refine P (ρ ++ [[D]]) (.ref D) H ⟨⟨M.st.keepK, fun b m => M.st.new b (Mo.adopt.mp m)⟩, fun n fp e => ?_⟩ S ?_
  · obtain ⟨fp', e', q⟩ := M.root n fp e
    exact ⟨fp', by rw [List.getElem?_append_left (List.getElem?_eq_some_iff.mp e').1]; exact e', q⟩
  · rw [← M.S.len]
    exact SlV.pushed _
theorem fe_comp (hc : X.calm = true) (hN : X.N.Nodup) (hi : FI X C Wx tg iter src) (ok : BlkOk X.N X.env.scope scope own)
    (hg : ∀ (s : Shared) (H : Hp) (Cc : Addr) (cl : List (Str × Addr)) (fp : List Addr), FG (X.blk s H scope (compEnvC scope cl Cc X.env) fp) tg t)
    (ht : ∀ (C' : Fc) (_ : C'.T = C.T) (s : Shared) (H : Hp) (Cc : Addr) (cl : List (Str × Addr)) (fp : List Addr), FTs (X.blk s H scope (compEnvC scope cl Cc X.env) fp) C' W0 ifs tt)
    (he : ∀ (C' : Fc) (_ : C'.T = C.T) (s : Shared) (H : Hp) (Cc : Addr) (cl : List (Str × Addr)) (fp : List Addr), FE (X.blk s H scope (compEnvC scope cl Cc X.env) fp) C' W0 elt fe)
    (hsl : ∀ i ∈ t.slots, i ∈ own.map (·.2) := by decide) (hs : ∀ x, foldedSetIterable iter X.env x = pure x := by intro _; rfl) :
    FE X C Wx (.ListComp elt [⟨tg, iter, ifs, 0⟩] scope pos) (eComp src t (own.map (·.2)) tt fe) :=
  PE.imp (pe_lc (tt := fun σ H Q => ∃ C', C'.T = C.T ∧ rd X.K X.mg C' W0 relT tt σ H Q) (te := fun σ H Q => ∃ C', C'.T = C.T ∧ rd X.K X.mg C' W0 (relE X.K C') fe σ H Q) hc hN hi ok hg
    (fun s H Cc cl fp => ⟨fun pins s' σ H Q I ⟨C', z, q⟩ => (ht C' z s _ Cc cl fp).run pins s' σ H Q I q⟩) (fun s H Cc cl fp => ⟨fun pins s' σ H Q I ⟨C', z, q⟩ => (he C' z s _ Cc cl fp).run pins s' σ H Q I q⟩) hs) fun σ H Q p =>
    lc_read (g := fun out h => .ok (.val (.list out)) h) hsl (fun C' z _ _ _ q => ⟨C', z, q⟩) (fun C' z _ _ _ q => ⟨C', z, q⟩) lc_val p
theorem fe_compN (hc : X.calm = true) (hN : X.N.Nodup) (hi : FI X C Wx tg iter src) (ok : BlkOk X.N X.env.scope scope own)
    (hg : ∀ (s : Shared) (H : Hp) (Cc : Addr) (cl : List (Str × Addr)) (fp : List Addr), FG (X.blk s H scope (compEnvC scope cl Cc X.env) fp) tg t)
    (ht : ∀ (C' : Fc) (_ : C'.T = C.T) (s : Shared) (H : Hp) (Cc : Addr) (cl : List (Str × Addr)) (fp : List Addr), FTs (X.blk s H scope (compEnvC scope cl Cc X.env) fp) C' W0 ifs tt)
    (he : ∀ (C' : Fc) (_ : C'.T = C.T) (s : Shared) (H : Hp) (Cc : Addr) (cl : List (Str × Addr)) (fp : List Addr), FE (X.blk s H scope (compEnvC scope cl Cc X.env) fp) C' W0 elt fe)
    (hsl : ∀ i ∈ t.slots, i ∈ own.map (·.2) := by decide) (hs : ∀ x, foldedSetIterable iter X.env x = pure x := by intro _; rfl) :
    FE X C Wx (.ListComp elt [⟨tg, iter, ifs, 0⟩] scope pos) (eCompN src t (own.map (·.2)) tt fe) :=
  PE.imp (pe_lc (tt := fun σ H Q => ∃ C', C'.T = C.T ∧ rd X.K X.mg C' W0 relT tt σ H Q) (te := fun σ H Q => ∃ C', C'.T = C.T ∧ rd X.K X.mg C' W0 (relE X.K C') fe σ H Q) hc hN hi ok hg
    (fun s H Cc cl fp => ⟨fun pins s' σ H Q I ⟨C', z, q⟩ => (ht C' z s _ Cc cl fp).run pins s' σ H Q I q⟩) (fun s H Cc cl fp => ⟨fun pins s' σ H Q I ⟨C', z, q⟩ => (he C' z s _ Cc cl fp).run pins s' σ H Q I q⟩) hs) fun σ H Q p =>
    lc_read (g := fun out h => .ok (.loc h.length) (h ++ [Ob.lst out])) hsl (fun C' z _ _ _ q => ⟨C', z, q⟩) (fun C' z _ _ _ q => ⟨C', z, q⟩) lc_loc p
/-- y = [..], a statement of its own -/
theorem fs_setLc {i : Nat} {y : Str} {py spos : Pos} (hc : X.calm = true) (hN : X.N.Nodup) (hy : X.N[i]? = some y) (hyl : X.env.scope.names.lookup y = some .local)
    (hsw : swapsWith (.ListComp elt [⟨tg, iter, ifs, 0⟩] scope pos) (some (.Name y py)) spos.line X.env = pure true) (hi : FI X C Wx tg iter src) (ok : BlkOk X.N X.env.scope scope own)
    (hg : ∀ (s : Shared) (H : Hp) (Cc : Addr) (cl : List (Str × Addr)) (fp : List Addr), FG (X.blk s H scope (compEnvC scope cl Cc X.env) fp) tg t)
    (ht : ∀ (C' : Fc) (_ : C'.T = C.T) (s : Shared) (H : Hp) (Cc : Addr) (cl : List (Str × Addr)) (fp : List Addr), FTs (X.blk s H scope (compEnvC scope cl Cc X.env) fp) C' W0 ifs tt)
    (he : ∀ (C' : Fc) (_ : C'.T = C.T) (s : Shared) (H : Hp) (Cc : Addr) (cl : List (Str × Addr)) (fp : List Addr), FE (X.blk s H scope (compEnvC scope cl Cc X.env) fp) C' W0 elt fe)
    (hsl : ∀ i ∈ t.slots, i ∈ own.map (·.2) := by decide) (hs : ∀ x, foldedSetIterable iter X.env x = pure x := by intro _; rfl) :
    FS X C Wx (.Assign [.Name y py] (.ListComp elt [⟨tg, iter, ifs, 0⟩] scope pos) spos) (sSet i (eComp src t (own.map (·.2)) tt fe)) :=
  PS.imp (ps_setLc (tt := fun σ H Q => ∃ C', C'.T = C.T ∧ rd X.K X.mg C' W0 relT tt σ H Q) (te := fun σ H Q => ∃ C', C'.T = C.T ∧ rd X.K X.mg C' W0 (relE X.K C') fe σ H Q) hc hN hy hyl hsw hi ok hg
    (fun s H Cc cl fp => ⟨fun pins s' σ H Q I ⟨C', z, q⟩ => (ht C' z s _ Cc cl fp).run pins s' σ H Q I q⟩) (fun s H Cc cl fp => ⟨fun pins s' σ H Q I ⟨C', z, q⟩ => (he C' z s _ Cc cl fp).run pins s' σ H Q I q⟩) hs) fun D σ H p =>
    lc_read (g := fun out h => .ok (.val (.list out)) h) hsl (fun C' z _ _ _ q => ⟨C', z, q⟩) (fun C' z _ _ _ q => ⟨C', z, q⟩) lc_val
      (rdS.bind (r1 := relE X.K C) (R := fun x H1 => gName i x σ H1 D.nx) (f := eComp src t (own.map (·.2)) tt fe) (g := fun s env h => .next (env.set i (some s)) h) p fun ρ1 env h1 a b H1 S1 E1 r1 P1 => P1 ρ1 _ H1 (Stp.refl _ _) S1 (E1.set r1 i))
theorem fs_setLcN {i : Nat} {y : Str} {py spos : Pos} (hc : X.calm = true) (hN : X.N.Nodup) (hy : X.N[i]? = some y) (hyl : X.env.scope.names.lookup y = some .local)
    (hsw : swapsWith (.ListComp elt [⟨tg, iter, ifs, 0⟩] scope pos) (some (.Name y py)) spos.line X.env = pure true) (hi : FI X C Wx tg iter src) (ok : BlkOk X.N X.env.scope scope own)
    (hg : ∀ (s : Shared) (H : Hp) (Cc : Addr) (cl : List (Str × Addr)) (fp : List Addr), FG (X.blk s H scope (compEnvC scope cl Cc X.env) fp) tg t)
    (ht : ∀ (C' : Fc) (_ : C'.T = C.T) (s : Shared) (H : Hp) (Cc : Addr) (cl : List (Str × Addr)) (fp : List Addr), FTs (X.blk s H scope (compEnvC scope cl Cc X.env) fp) C' W0 ifs tt)
    (he : ∀ (C' : Fc) (_ : C'.T = C.T) (s : Shared) (H : Hp) (Cc : Addr) (cl : List (Str × Addr)) (fp : List Addr), FE (X.blk s H scope (compEnvC scope cl Cc X.env) fp) C' W0 elt fe)
    (hsl : ∀ i ∈ t.slots, i ∈ own.map (·.2) := by decide) (hs : ∀ x, foldedSetIterable iter X.env x = pure x := by intro _; rfl) :
    FS X C Wx (.Assign [.Name y py] (.ListComp elt [⟨tg, iter, ifs, 0⟩] scope pos) spos) (sSet i (eCompN src t (own.map (·.2)) tt fe)) :=
  PS.imp (ps_setLc (tt := fun σ H Q => ∃ C', C'.T = C.T ∧ rd X.K X.mg C' W0 relT tt σ H Q) (te := fun σ H Q => ∃ C', C'.T = C.T ∧ rd X.K X.mg C' W0 (relE X.K C') fe σ H Q) hc hN hy hyl hsw hi ok hg
    (fun s H Cc cl fp => ⟨fun pins s' σ H Q I ⟨C', z, q⟩ => (ht C' z s _ Cc cl fp).run pins s' σ H Q I q⟩) (fun s H Cc cl fp => ⟨fun pins s' σ H Q I ⟨C', z, q⟩ => (he C' z s _ Cc cl fp).run pins s' σ H Q I q⟩) hs) fun D σ H p =>
    lc_read (g := fun out h => .ok (.loc h.length) (h ++ [Ob.lst out])) hsl (fun C' z _ _ _ q => ⟨C', z, q⟩) (fun C' z _ _ _ q => ⟨C', z, q⟩) lc_loc
      (rdS.bind (r1 := relE X.K C) (R := fun x H1 => gName i x σ H1 D.nx) (f := eCompN src t (own.map (·.2)) tt fe) (g := fun s env h => .next (env.set i (some s)) h) p fun ρ1 env h1 a b H1 S1 E1 r1 P1 => P1 ρ1 _ H1 (Stp.refl _ _) S1 (E1.set r1 i))
end
end FL

namespace FL
open PySem PySem.Spec PyProof.Rows L2

/-! ### defs -/
/-- the arguments of a call: data, and objects that may be changed -/
inductive ArgsOk (K : PySem.W.Frag) (H : Hp) (M : Ms) : List Bool → List V → List PyData → Hs → List Addr → Prop
  | nil : ArgsOk K H M [] [] [] [] []
  | val {io : List Bool} {v : V} {vs : List V} {d : PyData} {ds : List PyData} {os : Hs} {ad : List Addr} : Rp K H M v d → ArgsOk K H M io vs ds os ad → ArgsOk K H M (false :: io) (v :: vs) (d :: ds) os ad
  | obj {io : List Bool} {a : Addr} {vs : List V} {o : Ob} {ds : List PyData} {os : Hs} {ad : List Addr} : ObOk K H M [a] o → ArgsOk K H M io vs ds os ad → ArgsOk K H M (true :: io) (.ref a :: vs) ds (o :: os) (a :: ad)
def OsOk (K : PySem.W.Frag) (H : Hp) (M : Ms) (ad : List Addr) (os : Hs) : Prop := ad.length = os.length ∧ ∀ (n : Nat) (a : Addr) (o : Ob), ad[n]? = some a → os[n]? = some o → ObOk K H M [a] o
mutual
/-- no list in it -/
def noL : PyData → Bool
  | .list _ => false
  | .dict _ => false
  | .tuple ds => noLs ds
  | .none => true
  | .bool _ => true
  | .int _ => true
  | .str _ => true
def noLs : List PyData → Bool
  | [] => true
  | d :: ds => noL d && noLs ds
end
abbrev Fm := List PyData → Hs → Rz PyData
def Ma (ad : List Addr) (Bar : Ms) : Ms := fun a => a ∈ ad ∨ Bar a
/-- what is new, if it is a list -/
def FrOk (K : PySem.W.Frag) (H H' : Hp) (M : Ms) (v : V) (d : PyData) : Prop :=
  noL d = true ∨ ∃ a vs ds, v = .ref a ∧ d = .list ds ∧ H a = none ∧ H' a = some (.lst vs) ∧ RpAll K H' M vs ds ∧ noLs ds = true
/-- all but what stands at ad stays; tables may grow -/
def FrmK (T : List (Addr × Str)) (ad : List Addr) (H H' : Hp) : Prop := (∀ b o, H b = some o → b ∉ ad → ∃ o', H' b = some o' ∧ Kp o o') ∧ LamX.Tabs T H'
/-- the promise that a mirror tells -/
def spOf (K : PySem.W.Frag) (mg : Str → Option Value) (T : List (Addr × Str)) (fr : Bool) (io : List Bool) (m : Fm) : Sp := fun vs H Q E =>
  ∃ (ad : List Addr) (Bar : Ms) (ds : List PyData) (os : Hs), LamX.Tabs T H ∧ ArgsOk K H (Ma ad Bar) io vs ds os ad ∧ ad.Nodup ∧ (∀ b, Bar b → b ∉ ad ∧ ∃ o, H b = some o) ∧ match m ds os with
    | .ok d os' => ∀ v H', FrmK T ad H H' → OsOk K H' (Ma ad Bar) ad os' → Rp K H' (Ma ad Bar) v d → (fr = true → FrOk K H H' (Ma ad Bar) v d) → Q v H'
    | .err x os' => ∀ H' cls d, FrmK T ad H H' → OsOk K H' (Ma ad Bar) ad os' → XnOk K mg H' (Ma ad Bar) x cls d → E cls d H'
    | .bad => False
/-- a def's promise, where no repr is under way -/
structure FnG (P : Program) (w : World) (K : PySem.W.Frag) (mg : Str → Option Value) (base : Heap) (X : CXT) (k : Nat) (f : Addr) (fd : FuncData) (ps : List Str) (sp : Sp) : Prop where
  len : ∀ vs H Q E, sp vs H Q E → vs.length = ps.length
  run : ∀ (A : Around) (outer : List Env) (s : Shared) (H : Hp) (args : Args) (us : List Value) (vs : List V) (Q : VK) (E : XK), A.guards = some [] → Room k A → Env0 P w K mg base A outer s H → BindsTo s fd args (ps.zip us) → Vals vs us → sp vs H Q E →
    codeAny (model P w) A (.call (.ref f) args) (CR X outer P w H s Q E) s
theorem FnG.mono {P : Program} {w : World} {K : PySem.W.Frag} {mg : Str → Option Value} {base : Heap} {X : CXT} {j k : Nat} {f : Addr} {fd : FuncData} {ps : List Str} {sp : Sp} (F : FnG P w K mg base X j f fd ps sp) (h : j ≤ k) : FnG P w K mg base X k f fd ps sp :=
  ⟨F.len, fun A outer s H args us vs Q E hg hr => F.run A outer s H args us vs Q E hg (hr.mono h)⟩
theorem guards_deeper (A : Around) (e : Env) : (A.deeper e).guards = A.guards := rfl
section
variable {P : Program} {w : World} {K : PySem.W.Frag} {mg : Str → Option Value} {base : Heap}
/-- a def by its body -/
theorem fnG_of {X : CXT} {x qual : Str} {st : Stmt} {f : Addr} {fd : FuncData} {N ps : List Str} {k : Nat} {sp : Sp} (F : Fun K x qual st f fd) (S : FnScope N ps (defScope st)) (len : ∀ vs H Q E, sp vs H Q E → vs.length = ps.length)
    (hb : ∀ (cdv : Value), fd.code = cdv → ∀ (A : Around) (outer : List Env) (s : Shared) (H : Hp) (vs : List V) (Q : VK) (E : XK), A.guards = some [] → Room k (A.deeper (envOfC qual (defScope st) s.heap.objs.size f cdv)) → sp vs H Q E →
      ∃ t, PSs (cxOf X P w K mg base N qual (defScope st) f cdv A outer s H E) (defBody st) t ∧ t { nx := fun _ H' => Q .non H', rt := Q } (start N vs) H) : FnG P w K mg base X (k + 1) f fd ps sp := by
  obtain ⟨oc, od, kV, doc, pm, an, cdv, ct, osl, rfl, lk, hcd⟩ := F.ex
  constructor
  · exact len
  intro A outer s H args us vs Q E hg hr e0 hbn r hsp
  have up : ∀ b o, base.get? b = some o → s.heap.get? b = some o := fun b o e => (e0.bs b o e).1
  have kinds : ∀ y ∈ ps.zip us, (defScope st).names.lookup y.1 = some .local ∨ ((defScope st).names.lookup y.1 = some .cell ∧ ((cellsFrom (s.heap.objs.size + 1) (defScope st).names []).lookup y.1).isSome = true) := by
    rintro ⟨n, v⟩ hy
    have hn := S.par n (List.of_mem_zip hy).1
    exact hn.imp id fun q => ⟨q, PySem.W.cellsFrom_some _ _ _ (.inl q)⟩
  have kin : K.In s.heap := e0.mod.kin.keeps up
  refine codeAny_call_function hr.depth (kin _ _ lk) rfl S.co S.gen rfl (PySem.W.codeRec_of kin hcd) (hbn _ _ _ _ (wpAny_newFunctionEnv_cells S.kind kinds ?_))
  intro env he s1 x1
  subst he
  obtain ⟨t, ht, hq⟩ := hb cdv rfl A outer s H vs Q E hg (hr.deeper _) hsp
  refine ⟨(e0.mod.nolimit.keeps up).keeps x1.toInCall.keep, codeAny_func (wpAny_mono (ht.run [] s1 (start N vs) H _ (inv_start S hr.hd e0 (len _ _ _ _ hsp) r x1) hq) ?_ fun e s' hs => hs)⟩
  intro fl s' hs
  match fl, hs with
  | .ret u, hs => obtain ⟨v, _, H', J, rv, q⟩ := hs; exact ⟨v, H', J.os, J.bare, J.base, J.hok, rv, q⟩
  | .next, hs => obtain ⟨_, H', J, q⟩ := hs; exact ⟨V.non, H', J.os, J.bare, J.base, J.hok, rfl, q⟩
  | .brk, hs => obtain ⟨_, _, _, q⟩ := hs; exact False.elim q
  | .cont, hs => obtain ⟨_, _, _, q⟩ := hs; exact False.elim q
end
/-! ### the mirror of a def, by its body's -/
def mkEnv : List Bool → List PyData → Nat → En
  | false :: io, d :: ds, k => some (.val d) :: mkEnv io ds k
  | true :: io, ds, k => some (.loc k) :: mkEnv io ds (k + 1)
  | _, _, _ => []
def outD (fr : Bool) (k : Nat) (s : Sl) (h : Hs) : Rz PyData := match s with
  | .val d => if fr = true ∧ noL d = false then .bad else .ok d (h.take k)
  | .loc n => if k ≤ n then (match h[n]? with
    | some (.lst ds) => if fr = true ∧ noLs ds = false then .bad else .ok (.list ds) (h.take k)
    | some (.lls dss) => if fr = true then .bad else .ok (.list (dss.map .list)) (h.take k)
    | _ => .bad) else .bad
  | _ => .bad
def runFn (fr : Bool) (io : List Bool) (nl : Nat) (fb : Sv) : Fm := fun ds os => match fb (mkEnv io ds 0 ++ List.replicate nl none) os with
  | .next _ h => .ok .none (h.take os.length)
  | .ret s h => outD fr os.length s h
  | .err x _ h => .err x (h.take os.length)
  | _ => .bad
section
variable {K : PySem.W.Frag} {H : Hp} {M : Ms}
theorem ArgsOk.lens : ∀ {io : List Bool} {vs : List V} {ds : List PyData} {os : Hs} {ad : List Addr}, ArgsOk K H M io vs ds os ad → vs.length = io.length ∧ ad.length = os.length
  | _, _, _, _, _, .nil => ⟨rfl, rfl⟩
  | _, _, _, _, _, .val _ t => ⟨congrArg (· + 1) t.lens.1, t.lens.2⟩
  | _, _, _, _, _, .obj _ t => ⟨congrArg (· + 1) t.lens.1, congrArg (· + 1) t.lens.2⟩
theorem ArgsOk.count : ∀ {io : List Bool} {vs : List V} {ds : List PyData} {os : Hs} {ad : List Addr}, ArgsOk K H M io vs ds os ad → ad.length = io.count true
  | _, _, _, _, _, .nil => rfl
  | _, _, _, _, _, .val _ t => by rw [List.count_cons]; simpa using t.count
  | _, _, _, _, _, .obj _ t => by rw [List.count_cons]; simpa using t.count
theorem ArgsOk.objs : ∀ {io : List Bool} {vs : List V} {ds : List PyData} {os : Hs} {ad : List Addr}, ArgsOk K H M io vs ds os ad → ∀ (n : Nat) (a : Addr) (o : Ob), ad[n]? = some a → os[n]? = some o → ObOk K H M [a] o
  | _, _, _, _, _, .nil, _, _, _, e, _ => by simp at e
  | _, _, _, _, _, .val _ t, n, a, o, e, e' => t.objs n a o e e'
  | _, _, _, _, _, .obj x t, 0, a, o, e, e' => by
    simp at e e'
    subst e; subst e'
    exact x
  | _, _, _, _, _, .obj x t, n + 1, a, o, e, e' => t.objs n a o (by simpa using e) (by simpa using e')
theorem ObOk.trk {fp : List Addr} {o : Ob} (x : ObOk K H M fp o) : ∀ a ∈ fp, ∃ u, H a = some u := fun a m => by
  obtain ⟨u, e, _⟩ := x.nte m
  exact ⟨u, e⟩
theorem flatten_ones (ad : List Addr) : (ad.map fun a => [a]).flatten = ad := by
  induction ad with
  | nil => rfl
  | cons a r ih => rw [List.map_cons, List.flatten_cons, ih]; rfl
/-- a def's beginning -/
theorem simH_start {T : List (Addr × Str)} {Bar : Ms} {io : List Bool} {vs : List V} {ds : List PyData} {os : Hs} {ad : List Addr} (a : ArgsOk K H (Ma ad Bar) io vs ds os ad) (nd : ad.Nodup) (nb : ∀ b, Bar b → b ∉ ad ∧ ∃ o, H b = some o) (tb : LamX.Tabs T H) :
    SimH K ⟨H, ad.map fun a => [a], Bar, T, none⟩ (ad.map fun a => [a]) os H := by
  have eM : Mo ⟨H, ad.map fun a => [a], Bar, T, none⟩ (ad.map fun a => [a]) = Ma ad Bar := by
    funext b
    unfold Mo Ma
    rw [flatten_ones]
  have trk : ∀ b ∈ ad, ∃ o, H b = some o := fun b hb => by
    obtain ⟨n, hn, e⟩ := List.getElem_of_mem hb
    have hl := a.lens.2
    have h2 : n < os.length := by omega
    exact (a.objs n b os[n] (by rw [← e]; exact List.getElem?_eq_getElem hn) (List.getElem?_eq_getElem h2)).trk b (by simp)
  refine ⟨by rw [List.length_map]; exact a.lens.2, by rw [flatten_ones]; exact nd, fun b hb => trk b (by rw [flatten_ones] at hb; exact hb), fun n fp o e1 e2 => ?_, fun _ o e _ => ⟨o, e, .inl rfl⟩, fun b hb => .inl hb, fun b hb => ?_, fun b hb => trk b ?_, fun n fp e => e, tb⟩
  · rw [eM]
    rw [List.getElem?_map] at e1
    cases q : ad[n]? with
    | none => rw [q] at e1; cases e1
    | some b =>
      rw [q] at e1
      cases e1
      exact a.objs n b o q e2
  · rw [flatten_ones]
    exact nb b hb
  · rw [← flatten_ones ad]; exact hb
theorem envOk_args {C : Fc} {ρ : Fps} (hM : ∀ v d, Rp K H M v d → Rp K H (Mo C ρ) v d) : ∀ {io : List Bool} {vs : List V} {ds : List PyData} {os : Hs} {ad : List Addr} {k : Nat}, ArgsOk K H M io vs ds os ad → (∀ (n : Nat) (a : Addr), ad[n]? = some a → ρ[k + n]? = some [a]) →
    (mkEnv io ds k).length = vs.length ∧ ∀ (i : Nat) (s : Sl), (mkEnv io ds k)[i]? = some (some s) → ∃ v, vs[i]? = some v ∧ SlV K C ρ H v s
  | _, _, _, _, _, k, .nil, _ => ⟨rfl, fun i s e => by simp [mkEnv] at e⟩
  | _, _, _, _, _, k, .val r t, hρ => by
    obtain ⟨l, g⟩ := envOk_args hM (k := k) t hρ
    refine ⟨congrArg (· + 1) l, fun i s e => ?_⟩
    cases i with
    | zero =>
      simp [mkEnv] at e
      subst e
      exact ⟨_, rfl, hM _ _ r⟩
    | succ i =>
      obtain ⟨v, e1, r1⟩ := g i s (by simpa [mkEnv] using e)
      exact ⟨v, by simpa using e1, r1⟩
  | _, _, _, _, _, k, .obj (a := a) x t, hρ => by
    obtain ⟨l, g⟩ := envOk_args hM (k := k + 1) t fun n b e => by
      have := hρ (n + 1) b (by simpa using e)
      rw [show k + 1 + n = k + (n + 1) by omega]
      exact this
    refine ⟨congrArg (· + 1) l, fun i s e => ?_⟩
    cases i with
    | zero =>
      have e' : Sl.loc k = s := by simpa [mkEnv] using e
      subst e'
      exact ⟨_, rfl, [a], a, hρ 0 a rfl, rfl, rfl⟩
    | succ i =>
      obtain ⟨v, e1, r1⟩ := g i s (by simpa [mkEnv] using e)
      exact ⟨v, by simpa using e1, r1⟩
theorem envOk_start {C : Fc} {ρ : Fps} {Bar : Ms} {io : List Bool} {vs : List V} {ds : List PyData} {os : Hs} {ad : List Addr} {N : List Str} (a : ArgsOk K H M io vs ds os ad) (hM : ∀ v d, Rp K H M v d → Rp K H (Mo C ρ) v d) (hρ : ρ = ad.map fun a => [a]) :
    EnvOk K C ρ H (mkEnv io ds 0 ++ List.replicate (N.length - io.length) none) (L2.start N vs) := by
  obtain ⟨l, g⟩ := envOk_args (k := 0) hM a fun n b e => by
    rw [hρ, List.getElem?_map, Nat.zero_add, e]; rfl
  have hv := a.lens.1
  unfold L2.start
  refine ⟨by rw [List.length_append, List.length_append, List.length_replicate, List.length_replicate, List.length_map, l, hv], fun i s e => ?_⟩
  by_cases hi : i < (mkEnv io ds 0).length
  · rw [List.getElem?_append_left hi] at e
    obtain ⟨v, e1, r⟩ := g i s e
    refine ⟨v, ?_, r⟩
    rw [List.getElem?_append_left (by rw [List.length_map]; omega), List.getElem?_map, e1]; rfl
  · rw [List.getElem?_append_right (by omega), List.getElem?_replicate] at e
    split at e <;> cases e
end
def Wq (E : XK) : WX := fun cls d _ H => E cls d H
theorem oof_end {T : List (Addr × Str)} {K : PySem.W.Frag} {H H' : Hp} {Bar : Ms} {ad : List Addr} {ρ : Fps} {h : Hs} (S : SimH K ⟨H, ad.map fun a => [a], Bar, T, none⟩ ρ h H') : (∀ b, Ma ad Bar b → Mo ⟨H, ad.map fun a => [a], Bar, T, none⟩ ρ b) ∧ OsOk K H' (Ma ad Bar) ad (h.take ad.length) := by
  have root : ∀ (n : Nat) (a : Addr), ad[n]? = some a → ∃ fp : List Addr, ρ[n]? = some fp ∧ fp.head? = some a := fun n a e => by
    have e1 := S.pre n [a] (by show (ad.map fun a => [a])[n]? = _; rw [List.getElem?_map, e]; rfl)
    exact ⟨[a], e1, rfl⟩
  have sub : ∀ b, Ma ad Bar b → Mo ⟨H, ad.map fun a => [a], Bar, T, none⟩ ρ b := fun b m => by
    rcases m with m | m
    · obtain ⟨n, hn, e⟩ := List.getElem_of_mem m
      obtain ⟨fp, e1, q⟩ := root n b (by rw [← e]; exact List.getElem?_eq_getElem hn)
      refine .inl (flat_at e1 ?_)
      cases fp with
      | nil => cases q
      | cons c r => cases q; simp
    · exact .inr m
  have wl := S.wlen
  have wl' : ad.length ≤ h.length := by
    have : (ad.map fun a => [a]).length ≤ h.length := wl
    rw [List.length_map] at this
    exact this
  refine ⟨sub, by rw [List.length_take]; omega, fun n a o e1 e2 => ?_⟩
  obtain ⟨fp, e3, q⟩ := root n a e1
  have x := S.obj n fp o e3 (get_take e2)
  have fe : fp = [a] := by
    have z := S.pre n [a] (by show (ad.map fun a => [a])[n]? = _; rw [List.getElem?_map, e1]; rfl)
    rw [e3] at z
    exact Option.some.inj z
  subst fe
  exact ObOk.fewer sub x
/-- a def keeps what its mirror tells -/
theorem fnD {T : List (Addr × Str)} {P : Program} {w : World} {K : PySem.W.Frag} {mg : Str → Option Value} {base : Heap} {x qual : Str} {st : Stmt} {f : Addr} {fd : FuncData} {N ps : List Str} {k : Nat} (fr : Bool) (io : List Bool) {fb : Sv} (F : Fun K x qual st f fd) (S : FnScope N ps (defScope st)) (hio : io.length = ps.length)
    (hb : ∀ (cdv : Value), fd.code = cdv → ∀ (A : Around) (outer : List Env) (s : Shared) (H : Hp) (E : XK) (C : Fc), C.T = T → C.W.length = io.count true → A.guards = some [] → Room k (A.deeper (envOfC qual (defScope st) s.heap.objs.size f cdv)) → FSs (cxOf (L2.CX P w) P w K mg base N qual (defScope st) f cdv A outer s H E) C (Wq E) (defBody st) fb) :
    FnG P w K mg base (L2.CX P w) (k + 1) f fd ps (spOf K mg T fr io (runFn fr io (N.length - io.length) fb)) := by
  refine fnG_of F S (fun vs H Q E ⟨ad, Bar, ds, os, _, a, _⟩ => by rw [a.lens.1, hio]) fun cdv hcv A outer s H vs Q E hg hr hsp => ?_
  obtain ⟨ad, Bar, ds, os, tb, a, nd, nb, P0⟩ := hsp
  refine ⟨_, hb cdv hcv A outer s H E ⟨H, ad.map fun a => [a], Bar, T, none⟩ rfl (by rw [List.length_map]; exact a.count) hg hr, ad.map fun a => [a], mkEnv io ds 0 ++ List.replicate (N.length - io.length) none, os, simH_start a nd nb tb, envOk_start (Bar := Bar) a (fun v d r => Rp.fewer (fun b m => ?_) r) rfl, ?_⟩
  · unfold Mo at m
    rw [flatten_ones] at m
    exact m
  have hlen := a.lens.2
  have P1 : match (match fb (mkEnv io ds 0 ++ List.replicate (N.length - io.length) none) os with
    | .next _ h => (.ok .none (h.take os.length) : Rz PyData)
    | .ret s h => outD fr os.length s h
    | .err x _ h => .err x (h.take os.length)
    | _ => .bad) with
    | .ok d os' => ∀ v H', FrmK T ad H H' → OsOk K H' (Ma ad Bar) ad os' → Rp K H' (Ma ad Bar) v d → (fr = true → FrOk K H H' (Ma ad Bar) v d) → Q v H'
    | .err x os' => ∀ H' cls d, FrmK T ad H H' → OsOk K H' (Ma ad Bar) ad os' → XnOk K mg H' (Ma ad Bar) x cls d → E cls d H'
    | .bad => False := P0
  have frame : ∀ {ρ : Fps} {h : Hs} {H' : Hp}, SimH K ⟨H, ad.map fun a => [a], Bar, T, none⟩ ρ h H' → FrmK T ad H H' := fun S' => ⟨fun b o e n => S'.frK b o e (by
    show b ∉ (ad.map fun a => [a]).flatten
    rw [flatten_ones]; exact n), S'.tab⟩
  cases q : fb (mkEnv io ds 0 ++ List.replicate (N.length - io.length) none) os with
  | next e h =>
    rw [q] at P1
    intro ρ' σ' H' st' S' E'
    obtain ⟨sub, oo⟩ := oof_end S'
    rw [hlen] at oo
    exact P1 .non H' (frame S') oo .non fun _ => .inl rfl
  | err y e h =>
    rw [q] at P1
    intro ρ' σ' H' cls d st' S' E' xn
    obtain ⟨sub, oo⟩ := oof_end S'
    rw [hlen] at oo
    refine P1 H' cls d (frame S') oo ⟨xn.1, xn.2.imp id fun ⟨nf, da, ws, h1, h2, h3, h4⟩ => ⟨nf, da, ws, h1, h2, h3, h4.fewer sub⟩⟩
  | brk _ _ => rw [q] at P1; exact P1.elim
  | cont _ _ => rw [q] at P1; exact P1.elim
  | bad => rw [q] at P1; exact P1.elim
  | ret s h =>
    rw [q] at P1
    intro ρ' v H' st' S' r
    obtain ⟨sub, oo⟩ := oof_end S'
    rw [hlen] at oo
    cases s with
    | val d =>
      have P2 : match (if fr = true ∧ noL d = false then .bad else .ok d (h.take os.length) : Rz PyData) with
        | .ok d os' => ∀ v H', FrmK T ad H H' → OsOk K H' (Ma ad Bar) ad os' → Rp K H' (Ma ad Bar) v d → (fr = true → FrOk K H H' (Ma ad Bar) v d) → Q v H'
        | .err x os' => ∀ H' cls d, FrmK T ad H H' → OsOk K H' (Ma ad Bar) ad os' → XnOk K mg H' (Ma ad Bar) x cls d → E cls d H'
        | .bad => False := P1
      by_cases c : fr = true ∧ noL d = false
      · rw [if_pos c] at P2; exact P2.elim
      · rw [if_neg c] at P2
        refine P2 v H' (frame S') oo (Rp.fewer sub r) fun hf => .inl ?_
        cases z : noL d with
        | true => rfl
        | false => exact absurd ⟨hf, z⟩ c
    | loc n =>
      obtain ⟨fp, a0, e1, e2, rfl⟩ := r
      have P2 : match (if os.length ≤ n then (match h[n]? with
        | some (.lst ds) => if fr = true ∧ noLs ds = false then .bad else .ok (.list ds) (h.take os.length)
        | some (.lls dss) => if fr = true then .bad else .ok (.list (dss.map .list)) (h.take os.length)
        | _ => .bad) else .bad : Rz PyData) with
        | .ok d os' => ∀ v H', FrmK T ad H H' → OsOk K H' (Ma ad Bar) ad os' → Rp K H' (Ma ad Bar) v d → (fr = true → FrOk K H H' (Ma ad Bar) v d) → Q v H'
        | .err x os' => ∀ H' cls d, FrmK T ad H H' → OsOk K H' (Ma ad Bar) ad os' → XnOk K mg H' (Ma ad Bar) x cls d → E cls d H'
        | .bad => False := P1
      by_cases hn : os.length ≤ n
      · rw [if_pos hn] at P2
        cases z : h[n]? with
        | none => rw [z] at P2; exact P2.elim
        | some o =>
          rw [z] at P2
          cases o with
          | dic _ => exact P2.elim
          | dil _ _ => exact P2.elim
          | gone => exact P2.elim
          | lls dss =>
            dsimp only at P2
            by_cases c : fr = true
            · rw [if_pos c] at P2; exact P2.elim
            · rw [if_neg c] at P2
              obtain ⟨b, bs, rfl, hb, hlen2, w⟩ := S'.obj n fp _ e1 z
              have eb : b = a0 := by simpa using e2
              subst eb
              have nm : ∀ c ∈ b :: bs, ¬ Ma ad Bar c := fun c hc m => by
                rcases m with m | m
                · obtain ⟨j, hj, ej⟩ := List.getElem_of_mem m
                  have e3 := S'.pre j [c] (by show (ad.map fun a => [a])[j]? = _; rw [List.getElem?_map, List.getElem?_eq_getElem hj, ej]; rfl)
                  have := nodup_apart S'.nd e1 e3 hc (by simp)
                  omega
                · exact (S'.bar c m).1 (flat_at e1 hc)
              refine P2 (.ref b) H' (frame S') oo (.lst (.inl ⟨.inl hb, nm b (by simp)⟩) ?_) fun hf => absurd hf c
              have key : ∀ (bs : List Addr) (dss : List (List PyData)), bs.length = dss.length → (∀ c ∈ bs, ¬ Ma ad Bar c) → (∀ (i : Nat) (b : Addr) (ds : List PyData), bs[i]? = some b → dss[i]? = some ds → ∃ vs, H' b = some (.lst vs) ∧ RpAll K H' (Ma ad Bar) vs ds) → RpAll K H' (Ma ad Bar) (bs.map V.ref) (dss.map .list) := by
                intro bs
                induction bs with
                | nil =>
                  intro dss hl _ _
                  cases dss with
                  | nil => exact .nil
                  | cons _ _ => cases hl
                | cons b bs ih =>
                  intro dss hl hn hw
                  cases dss with
                  | nil => cases hl
                  | cons ds dss =>
                    obtain ⟨vs, q1, q2⟩ := hw 0 b ds rfl rfl
                    exact .cons (.lst (.inl ⟨.inl q1, hn b (by simp)⟩) q2) (ih dss (by simpa using hl) (fun c hc => hn c (List.mem_cons_of_mem _ hc)) fun i b ds h1 h2 => hw (i + 1) b ds (by simpa using h1) (by simpa using h2))
              exact key bs dss hlen2 (fun c hc => nm c (List.mem_cons_of_mem _ hc)) fun i b ds h1 h2 => by
                obtain ⟨vs, q1, q2⟩ := w i b ds h1 h2
                exact ⟨vs, q1, q2.fewer sub⟩
          | lst ls =>
            dsimp only at P2
            obtain ⟨e1', ws, hw, ra⟩ := S'.lst e1 e2 z
            have mem : a0 ∈ ρ'.flatten := flat_at e1' (by simp)
            have nad : a0 ∉ ad := fun m => by
              obtain ⟨j, hj, ej⟩ := List.getElem_of_mem m
              have e3 := S'.pre j [a0] (by show (ad.map fun a => [a])[j]? = _; rw [List.getElem?_map, List.getElem?_eq_getElem hj, ej]; rfl)
              have hm : a0 ∈ [a0] := by simp
              have := nodup_apart S'.nd e1' e3 (by simp) hm
              omega
            have new : H a0 = none := by
              rcases S'.own a0 mem with w | w
              · exact absurd (by
                  have w' : a0 ∈ (ad.map fun a => [a]).flatten := w
                  rw [flatten_ones] at w'; exact w') nad
              · exact w
            have nbar : ¬ Bar a0 := fun b => (S'.bar a0 b).1 mem
            by_cases c : fr = true ∧ noLs ls = false
            · rw [if_pos c] at P2; exact P2.elim
            · rw [if_neg c] at P2
              refine P2 (.ref a0) H' (frame S') oo (.lst (.inl ⟨.inl hw, fun m => m.elim nad nbar⟩) (ra.fewer sub)) fun hf => .inr ⟨a0, ws, ls, rfl, rfl, new, hw, ra.fewer sub, ?_⟩
              cases z : noLs ls with
              | true => rfl
              | false => exact absurd ⟨hf, z⟩ c
      · rw [if_neg hn] at P2; exact P2.elim
    | inn n i => exact P1.elim
    | exn x => exact P1.elim
end FL

namespace FL
open PySem PySem.Spec PyProof.Rows L2

/-! ### calls of defs -/
/-- the arguments taken apart: data, the places of objects that may be changed, these objects, the places of those that are only looked at -/
def dat0 (s : Sl) (h : Hs) : Option PyData := match s with
  | .val d => some d
  | .loc n => match h[n]? with
    | some (.lst ds) => some (.list ds)
    | _ => none
  | _ => none
def flat? (o : Option Ob) : Option Ob := match o with
  | some (.lls _) => none
  | some .gone => none
  | some (.dil _ _) => none
  | o => o
theorem flat_some {o : Option Ob} {u : Ob} (e : flat? o = some u) : o = some u ∧ (∀ x, u ≠ .lls x) ∧ u ≠ .gone ∧ ∀ x y, u ≠ .dil x y := by
  unfold flat? at e
  split at e
  · cases e
  · cases e
  · cases e
  · rename_i z z' z''
    refine ⟨e, fun x w => ?_, fun w => ?_, fun x y w => ?_⟩
    · subst w
      exact z x e
    · subst w
      exact z' e
    · subst w
      exact z'' x y e
def splitA : List Bool → List Sl → Hs → Option (List PyData × List Nat × Hs × List Nat)
  | [], [], _ => some ([], [], [], [])
  | false :: io, s :: ss, h => match dat0 s h, splitA io ss h with
    | some d, some (ds, ns, os, vw) => some (d :: ds, ns, os, match s with
      | .loc n => n :: vw
      | _ => vw)
    | _, _ => none
  | true :: io, .loc n :: ss, h => match flat? h[n]?, splitA io ss h with
    | some o, some (ds, ns, os, vw) => some (ds, n :: ns, o :: os, vw)
    | _, _ => none
  | _, _, _ => none
def putObs : List Nat → Hs → Hs → Hs
  | n :: ns, o :: os, h => putObs ns os (h.set n o)
  | _, _, h => h
def obNoL : Ob → Bool
  | .lls _ => false
  | .dil _ _ => false
  | .gone => true
  | .lst ds => noLs ds
  | .dic kvs => noLs (kvs.map (·.2))
def apartN : List Nat → List Nat → Bool
  | [], _ => true
  | n :: ns, vw => !(ns.contains n) && !(vw.contains n) && apartN ns vw
/-- a call's outcome in the caller -/
def callF (m : Fm) (io : List Bool) (fr : Bool) (ss : List Sl) (h : Hs) : Rz Sl := match splitA io ss h with
  | some (ds, ns, os, vw) => if apartN ns vw = true ∧ (vw = [] ∨ fr = true) then (match m ds os with
      | .ok d os' => if vw = [] ∨ os'.all obNoL = true then .ok (.val d) (putObs ns os' h) else .bad
      | .err x os' => if vw = [] ∨ (os'.all obNoL = true ∧ noLs (x.fs.map (·.2)) = true) then .err x (putObs ns os' h) else .bad
      | .bad => .bad) else .bad
  | none => .bad
def eCall (m : Fm) (io : List Bool) (fr : Bool) (fa : Av) : Ev := fun env h => (fa env h).bind fun ss h => callF m io fr ss h
/-- .. whose list becomes one of the def's own -/
def callN (m : Fm) (io : List Bool) (ss : List Sl) (h : Hs) : Rz Sl := match splitA io ss h with
  | some (ds, ns, os, vw) => if apartN ns vw = true then (match m ds os with
      | .ok (.list ls) os' => if os'.all obNoL = true then .ok (.loc h.length) (putObs ns os' h ++ [.lst ls]) else .bad
      | .err x os' => if vw = [] ∨ (os'.all obNoL = true ∧ noLs (x.fs.map (·.2)) = true) then .err x (putObs ns os' h) else .bad
      | _ => .bad) else .bad
  | none => .bad
def eCallN (m : Fm) (io : List Bool) (fa : Av) : Ev := fun env h => (fa env h).bind fun ss h => callN m io ss h

/-! ### data without lists -/
section
variable {K : PySem.W.Frag} {H : Hp} {M M' : Ms}
mutual
theorem Rp.noLists (t : ∀ a xs, QT K H M a xs → QT K H M' a xs) : ∀ (d : PyData) (v : V), noL d = true → Rp K H M v d → Rp K H M' v d
  | .none, _, _, h => by cases h; exact .non
  | .bool b, _, _, h => by cases h; exact .bl b
  | .int i, _, _, h => by cases h; exact .int i
  | .str x, _, _, h => by cases h; exact .str x
  | .list ds, _, e, h => by simp [noL] at e
  | .tuple ds, _, e, h => by
    cases h with
    | tup q ra => exact .tup (t _ _ q) (RpAll.noLists t ds _ (by simpa [noL] using e) ra)
  | .dict _, _, e, h => by simp [noL] at e
theorem RpAll.noLists (t : ∀ a xs, QT K H M a xs → QT K H M' a xs) : ∀ (ds : List PyData) (vs : List V), noLs ds = true → RpAll K H M vs ds → RpAll K H M' vs ds
  | [], _, _, h => by cases h; exact .nil
  | d :: ds, _, e, h => by
    have e' : noL d = true ∧ noLs ds = true := by simpa [noLs] using e
    cases h with
    | cons r ra => exact .cons (Rp.noLists t d _ e'.1 r) (RpAll.noLists t ds _ e'.2 ra)
end
end
section
variable {K : PySem.W.Frag} {C : Fc} {ρ : Fps} {H : Hp} {h : Hs}
/-- the roots of some objects -/
def Roots (ρ : Fps) (ns : List Nat) (ad : List Addr) : Prop := Paired (fun (n : Nat) (a : Addr) => ρ[n]? = some [a]) ns ad
/-- what a callee may not hand on: the caller's other objects -/
def BarOf (C : Fc) (ρ : Fps) (ad vr : List Addr) : Ms := fun b => (b ∈ ρ.flatten ∧ b ∉ ad ∧ b ∉ vr) ∨ C.Bar b
theorem ob_root {n : Nat} {fp : List Addr} {o : Ob} (S : SimH K C ρ h H) (e : ρ[n]? = some fp) (e' : h[n]? = some o) (nl : (∀ x, o ≠ .lls x) ∧ o ≠ .gone ∧ ∀ x y, o ≠ .dil x y) : ∃ a, fp = [a] := by
  have x := S.obj n fp o e e'
  cases o with
  | lst ds => obtain ⟨a, _, rfl, _⟩ := x; exact ⟨a, rfl⟩
  | dic ds => obtain ⟨a, _, rfl, _⟩ := x; exact ⟨a, rfl⟩
  | lls ds => exact absurd rfl (nl.1 ds)
  | dil ds ks => exact absurd rfl (nl.2.2 ds ks)
  | gone => exact absurd rfl nl.2.1
theorem split_lens : ∀ {io : List Bool} {ss : List Sl} {ds : List PyData} {ns : List Nat} {os : Hs} {vw : List Nat}, splitA io ss h = some (ds, ns, os, vw) → ns.length = os.length
  | [], [], ds, ns, os, vw, e => by
    have e' : some (([] : List PyData), ([] : List Nat), ([] : Hs), ([] : List Nat)) = some (ds, ns, os, vw) := e
    cases e'; rfl
  | false :: io, s :: ss, ds, ns, os, vw, e => by
    unfold splitA at e
    split at e
    · rename_i d ds' ns' os' vw' e1 e2
      cases e
      exact split_lens e2
    · cases e
  | true :: io, .loc n :: ss, ds, ns, os, vw, e => by
    unfold splitA at e
    split at e
    · rename_i o ds' ns' os' vw' e1 e2
      cases e
      exact congrArg (· + 1) (split_lens e2)
    · cases e
  | true :: _, .val _ :: _, _, _, _, _, e => by simp [splitA] at e
  | true :: _, .inn _ _ :: _, _, _, _, _, e => by simp [splitA] at e
  | true :: _, .exn _ :: _, _, _, _, _, e => by simp [splitA] at e
  | [], _ :: _, _, _, _, _, e => by simp [splitA] at e
  | false :: _, [], _, _, _, _, e => by simp [splitA] at e
  | true :: _, [], _, _, _, _, e => by simp [splitA] at e
/-- the roots of the objects that are handed over -/
theorem split_roots (S : SimH K C ρ h H) : ∀ {io : List Bool} {ss : List Sl} {vs : List V} {ds : List PyData} {ns : List Nat} {os : Hs} {vw : List Nat}, SlVs K C ρ H vs ss → splitA io ss h = some (ds, ns, os, vw) →
    ∃ ad vr, Roots ρ ns ad ∧ Roots ρ vw vr ∧ (∀ a ∈ vr, ∃ xs, H a = some (.lst xs)) ∧ ∀ M : Ms, (∀ b, M b → Mo C ρ b) → (∀ a ∈ vr, ¬ M a) → ArgsOk K H M io vs ds os ad
  | [], [], vs, ds, ns, os, vw, r, e => by
    have e' : some (([] : List PyData), ([] : List Nat), ([] : Hs), ([] : List Nat)) = some (ds, ns, os, vw) := e
    cases e'
    cases r
    exact ⟨[], [], .nil, .nil, fun a m => (by cases m), fun _ _ _ => .nil⟩
  | false :: io, s :: ss, vs, ds, ns, os, vw, r, e => by
    unfold splitA at e
    split at e
    · rename_i d ds' ns' os' vw' e1 e2
      cases e
      cases r with
      | cons r1 r2 =>
        obtain ⟨ad, vr, ha, hv, hl, k⟩ := split_roots S r2 e2
        cases s with
        | val d0 =>
          have ed : some d0 = some d := e1
          cases ed
          exact ⟨ad, vr, ha, hv, hl, fun M hM hn => .val (Rp.fewer hM r1) (k M hM hn)⟩
        | loc n =>
          obtain ⟨fp, a, q1, q2, rfl⟩ := r1
          have e1' : (match h[n]? with
            | some (.lst ds) => some (.list ds)
            | _ => none) = some d := e1
          split at e1'
          · rename_i ls e3
            cases e1'
            obtain ⟨q1', ws, hw, ra⟩ := S.lst q1 q2 e3
            refine ⟨ad, a :: vr, ha, .cons q1' hv, fun b hb => (List.mem_cons.mp hb).elim (fun z => ⟨ws, z ▸ hw⟩) (hl b), fun M hM hn => .val (.lst (.inl ⟨.inl hw, hn a (by simp)⟩) (ra.fewer hM)) (k M hM fun b hb => hn b (by simp [hb]))⟩
          · cases e1'
        | inn n i => cases e1
        | exn x => cases e1
    · cases e
  | true :: io, .loc n :: ss, vs, ds, ns, os, vw, r, e => by
    unfold splitA at e
    split at e
    · rename_i o ds' ns' os' vw' e1 e2
      cases e
      cases r with
      | cons r1 r2 =>
        obtain ⟨ad, vr, ha, hv, hl, k⟩ := split_roots S r2 e2
        obtain ⟨fp, a, q1, q2, rfl⟩ := r1
        obtain ⟨e1, nl⟩ := flat_some e1
        obtain ⟨b, rfl⟩ := ob_root S q1 e1 nl
        cases q2
        exact ⟨a :: ad, vr, .cons q1 ha, hv, hl, fun M hM hn => .obj (ObOk.fewer hM (S.obj n [a] o q1 e1)) (k M hM hn)⟩
    · cases e
  | true :: _, .val _ :: _, _, _, _, _, _, _, e => by simp [splitA] at e
  | true :: _, .inn _ _ :: _, _, _, _, _, _, _, e => by simp [splitA] at e
  | true :: _, .exn _ :: _, _, _, _, _, _, _, e => by simp [splitA] at e
  | [], _ :: _, _, _, _, _, _, _, e => by simp [splitA] at e
  | false :: _, [], _, _, _, _, _, _, e => by simp [splitA] at e
  | true :: _, [], _, _, _, _, _, _, e => by simp [splitA] at e
theorem Roots.mem {ns : List Nat} {ad : List Addr} (r : Roots ρ ns ad) : ∀ a ∈ ad, a ∈ ρ.flatten := by
  induction r with
  | nil => intro a h; cases h
  | cons e t ih =>
    intro a h
    rcases List.mem_cons.mp h with z | z
    · subst z; exact flat_at e (by simp)
    · exact ih a z
theorem Roots.ix {ns : List Nat} {ad : List Addr} (r : Roots ρ ns ad) : ∀ a ∈ ad, ∃ n ∈ ns, ρ[n]? = some [a] := by
  induction r with
  | nil => intro a h; cases h
  | @cons n b _ _ e t ih =>
    intro a h
    rcases List.mem_cons.mp h with z | z
    · subst z; exact ⟨n, by simp, e⟩
    · obtain ⟨m, hm, q⟩ := ih a z
      exact ⟨m, by simp [hm], q⟩
theorem apart_nodup (nd : ρ.flatten.Nodup) {vw : List Nat} : ∀ {ns : List Nat} {ad : List Addr}, Roots ρ ns ad → apartN ns vw = true → ad.Nodup ∧ (∀ n ∈ ns, n ∉ vw) ∧ ns.Nodup
  | [], _, .nil, _ => ⟨by simp, by simp, by simp⟩
  | n :: ns, _, .cons (b := a) e t, h => by
    have h' : ns.contains n = false ∧ vw.contains n = false ∧ apartN ns vw = true := by
      simp only [apartN, Bool.and_eq_true, Bool.not_eq_true'] at h
      exact ⟨h.1.1, h.1.2, h.2⟩
    have hn : n ∉ ns := fun m => by
      have := List.contains_iff_mem.mpr m
      rw [h'.1] at this; cases this
    have hv : n ∉ vw := fun m => by
      have := List.contains_iff_mem.mpr m
      rw [h'.2.1] at this; cases this
    obtain ⟨i1, i2, i3⟩ := apart_nodup nd t h'.2.2
    refine ⟨List.nodup_cons.mpr ⟨fun m => ?_, i1⟩, fun k hk => ?_, List.nodup_cons.mpr ⟨hn, i3⟩⟩
    · obtain ⟨j, hj, ej⟩ := Roots.ix t a m
      have := nodup_apart (a := a) nd e ej (by simp) (by simp)
      subst this
      exact hn hj
    · rcases List.mem_cons.mp hk with z | z
      · subst z; exact hv
      · exact i2 k z
theorem putObs_len : ∀ (ns : List Nat) (os : Hs) (h : Hs), (putObs ns os h).length = h.length
  | [], _, _ => rfl
  | _ :: _, [], _ => rfl
  | n :: ns, o :: os, h => by
    show (putObs ns os (h.set n o)).length = _
    rw [putObs_len ns os, List.length_set]
theorem putObs_get : ∀ {ns : List Nat} {ad : List Addr} {os : Hs} {h : Hs} {k : Nat} {o : Ob}, Roots ρ ns ad → ns.Nodup → (putObs ns os h)[k]? = some o → (k ∉ ns ∧ h[k]? = some o) ∨ (∃ (j : Nat) (a : Addr), ad[j]? = some a ∧ ρ[k]? = some [a] ∧ os[j]? = some o) ∨ os.length < ns.length
  | [], _, os, h, k, o, _, _, e => .inl ⟨by simp, e⟩
  | n :: ns, _, [], h, k, o, _, _, e => .inr (.inr (by simp))
  | n :: ns, _, o' :: os, h, k, o, .cons (b := a) q t, nd, e => by
    have e' : (putObs ns os (h.set n o'))[k]? = some o := e
    obtain ⟨nn, nd'⟩ := List.nodup_cons.mp nd
    rcases putObs_get t nd' e' with ⟨hk, e1⟩ | ⟨j, b, e1, e2, e3⟩ | hl
    · by_cases z : n = k
      · subst z
        rw [List.getElem?_set, if_pos rfl] at e1
        split at e1
        · cases e1
          exact .inr (.inl ⟨0, a, rfl, q, rfl⟩)
        · cases e1
      · rw [List.getElem?_set_ne z] at e1
        exact .inl ⟨fun m => by
          rcases List.mem_cons.mp m with w | w
          · exact z w.symm
          · exact hk w, e1⟩
    · exact .inr (.inl ⟨j + 1, b, by simpa using e1, e2, by simpa using e3⟩)
    · exact .inr (.inr (by simp; omega))
/-- tuples avoid the objects that lists are -/
theorem QT.of_lists {M M' : Ms} {H : Hp} (hl : ∀ b, M' b → M b ∨ ∃ xs, H b = some (.lst xs)) (a : Addr) (xs : List V) (q : QT K H M a xs) : QT K H M' a xs := by
  rcases q with ⟨r, n⟩ | q
  · refine .inl ⟨r, fun m => ?_⟩
    rcases hl a m with z | ⟨ys, z⟩
    · exact n z
    · rcases r with r | ⟨o, r⟩ <;> (rw [z] at r; cases r)
  · exact .inr q
theorem ObOk.noLists {M M' : Ms} {fp : List Addr} {o : Ob} {H : Hp} (t : ∀ a xs, QT K H M a xs → QT K H M' a xs) (e : obNoL o = true) (x : ObOk K H M fp o) : ObOk K H M' fp o := by
  cases o with
  | lst ds =>
    obtain ⟨a, vs, rfl, q, r⟩ := x
    exact ⟨a, vs, rfl, q, RpAll.noLists t _ _ e r⟩
  | dic kvs =>
    obtain ⟨a, vs, rfl, q, z, r⟩ := x
    exact ⟨a, vs, rfl, q, z, RpAll.noLists t _ _ e r⟩
  | lls dss => cases e
  | dil _ _ => cases e
  | gone => exact x
theorem FrmK.nt {T : List (Addr × Str)} {ad : List Addr} {H H' : Hp} (f : FrmK T ad H H') : ∀ b o, H b = some o → b ∉ ad → NT o → H' b = some o := fun b o e n t => by
  obtain ⟨o', e', k⟩ := f.1 b o e n
  rw [e', k.nt t]
theorem FrmK.some {T : List (Addr × Str)} {ad : List Addr} {H H' : Hp} (f : FrmK T ad H H') {b : Addr} {o : HO} (e : H b = some o) (n : b ∉ ad) : ∃ o', H' b = some o' := by
  obtain ⟨o', e', _⟩ := f.1 b o e n
  exact ⟨o', e'⟩
/-- behind a call: the caller's state -/
theorem call_after {C2 : Fc} {ad vr : List Addr} {ns vw : List Nat} {os' : Hs} {H' : Hp} {D : Ms} (S : SimH K C ρ h H) (ha : Roots ρ ns ad) (hv : Roots ρ vw vr) (hvl : ∀ a ∈ vr, ∃ xs, H a = some (.lst xs)) (nd : ns.Nodup) (dj : ∀ n ∈ ns, n ∉ vw)
    (hf : FrmK C.T ad H H') (oo : OsOk K H' (Ma ad (BarOf C ρ ad vr)) ad os') (hn : vw = [] ∨ os'.all obNoL = true) (e0 : C2 = { C with Bar := fun a => C.Bar a ∨ D a }) (hD : ∀ b, D b → H b = none ∧ (∃ o, H' b = some o) ∧ os'.all obNoL = true) (hDl : ∀ b, D b → ∃ xs, H' b = some (.lst xs)) :
    SimH K C2 ρ (putObs ns os' h) H' ∧ Stp (Mo C ρ) H (Mo C2 ρ) H' := by
  have adm : ∀ b ∈ ad, b ∈ ρ.flatten := ha.mem
  have fr := hf.nt
  have lens : ns.length = ad.length := Paired.length ha
  have Mo2 : ∀ b, Mo C2 ρ b → Mo C ρ b ∨ D b := fun b m => by
    subst e0
    rcases m with m | m | m
    · exact .inl (.inl m)
    · exact .inl (.inr m)
    · exact .inr m
  have st : Stp (Mo C ρ) H (Mo C2 ρ) H' := ⟨fun b o e n => hf.1 b o e fun m => n (.inl (adm b m)), fun b m => by
    rcases Mo2 b m with m | m
    · exact .inl m
    · exact .inr (hD b m).1⟩
  have trk' : ∀ b ∈ ρ.flatten, ∃ o, H' b = some o := fun b m => by
    by_cases hb : b ∈ ad
    · obtain ⟨j, hj, ej⟩ := List.getElem_of_mem hb
      have h2 : j < os'.length := by rw [← oo.1]; exact hj
      exact (oo.2 j b os'[j] (by rw [← ej]; exact List.getElem?_eq_getElem hj) (List.getElem?_eq_getElem h2)).trk b (by simp)
    · obtain ⟨o, e⟩ := S.trk b m
      exact hf.some e hb
  refine ⟨⟨by rw [putObs_len]; exact S.len, S.nd, trk', fun k fp o e1 e2 => ?_, fun b o e n => ?_, fun b m => by subst e0; exact S.own b m, fun b m => ?_, fun b m => ?_, fun n fp e => by subst e0; exact S.pre n fp e, by subst e0; exact hf.2⟩, st⟩
  · rcases putObs_get ha nd e2 with ⟨hk, e3⟩ | ⟨j, a, q1, q2, q3⟩ | hl
    · refine ObOk.stp st (fun b m => ?_) (S.obj k fp o e1 e3)
      have nb : b ∉ ad := fun z => by
        obtain ⟨n, hn', en⟩ := ha.ix b z
        have := nodup_apart S.nd en e1 (by simp) m
        subst this
        exact hk hn'
      obtain ⟨u, eu, nu⟩ := (S.obj k fp o e1 e3).nte m
      rw [eu]
      exact fr b u eu nb nu.1
    · rw [q2] at e1
      cases e1
      have x := oo.2 j a o q1 q3
      rcases hn with hn | hn
      · subst hn
        cases hv
        by_cases hd : ∃ b, D b
        · obtain ⟨b0, hb0⟩ := hd
          refine ObOk.noLists (fun a' xs' => QT.of_lists (fun b m => ?_) a' xs') (List.all_eq_true.mp (hD b0 hb0).2.2 o (List.mem_of_getElem? q3)) x
          rcases Mo2 b m with m | m
          · rcases m with m | m
            · by_cases hb : b ∈ ad
              · exact .inl (.inl hb)
              · exact .inl (.inr (.inl ⟨m, hb, by simp⟩))
            · exact .inl (.inr (.inr m))
          · exact .inr (hDl b m)
        · refine ObOk.fewer (fun b m => ?_) x
          rcases Mo2 b m with m | m
          · rcases m with m | m
            · by_cases hb : b ∈ ad
              · exact .inl hb
              · exact .inr (.inl ⟨m, hb, by simp⟩)
            · exact .inr (.inr m)
          · exact absurd ⟨b, m⟩ hd
      · refine ObOk.noLists (fun a' xs' => QT.of_lists (fun b m => ?_) a' xs') (List.all_eq_true.mp hn o (List.mem_of_getElem? q3)) x
        rcases Mo2 b m with m | m
        · rcases m with m | m
          · by_cases hb : b ∈ ad
            · exact .inl (.inl hb)
            · by_cases hb2 : b ∈ vr
              · right
                obtain ⟨xs, ex⟩ := hvl b hb2
                exact ⟨xs, fr b _ ex hb nt_lst⟩
              · exact .inl (.inr (.inl ⟨m, hb, hb2⟩))
          · exact .inl (.inr (.inr m))
        · exact .inr (hDl b m)
    · rw [← oo.1, ← lens] at hl
      omega
  · subst e0
    obtain ⟨o1, e1, k1⟩ := S.frK b o e n
    obtain ⟨o2, e2, k2⟩ := hf.1 b o1 e1 fun m => by
      rcases S.own b (adm b m) with z | z
      · exact n z
      · rw [e] at z; cases z
    exact ⟨o2, e2, k1.trans k2⟩
  · subst e0
    rcases m with m | m
    · obtain ⟨q1, o, q2⟩ := S.bar b m
      exact ⟨q1, hf.some q2 fun z => q1 (adm b z)⟩
    · obtain ⟨q1, q2, _⟩ := hD b m
      refine ⟨fun z => ?_, q2⟩
      obtain ⟨o, e⟩ := S.trk b z
      rw [q1] at e; cases e
  · subst e0
    by_cases hb : b ∈ ad
    · exact trk' b (adm b hb)
    · obtain ⟨o, e⟩ := S.wtr b m
      exact hf.some e hb
/-- the caller's bar -/
theorem bar_of (S : SimH K C ρ h H) {ad vr : List Addr} (hm : ∀ a ∈ ad, a ∈ ρ.flatten) : ∀ b, BarOf C ρ ad vr b → b ∉ ad ∧ ∃ o, H b = some o := fun b m => by
  rcases m with ⟨m, n, _⟩ | m
  · exact ⟨n, S.trk b m⟩
  · exact ⟨fun z => (S.bar b m).1 (hm b z), (S.bar b m).2⟩
/-- what a call wants -/
theorem sp_call {mg : Str → Option Value} {Wx : WX} {σ : St} {m : Fm} {io : List Bool} {fr : Bool} {ss : List Sl} {vs : List V} {Q : VK} (S : SimH K C ρ h H) (r : SlVs K C ρ H vs ss) (P : Po K mg C Wx σ ρ H (relE K C) (callF m io fr ss h) Q) :
    spOf K mg C.T fr io m vs H Q fun cls d H' => Wx cls d σ H' := by
  unfold callF at P
  cases e : splitA io ss h with
  | none => rw [e] at P; exact P.elim
  | some q =>
    obtain ⟨ds, ns, os, vw⟩ := q
    rw [e] at P
    dsimp only at P
    by_cases c : apartN ns vw = true ∧ (vw = [] ∨ fr = true)
    · rw [if_pos c] at P
      obtain ⟨ad, vr, ha, hv, hvl, k⟩ := split_roots S r e
      obtain ⟨nda, dj, ndn⟩ := apart_nodup S.nd ha c.1
      have adm := ha.mem
      have vdj : ∀ b ∈ vr, b ∉ ad := fun b hb z => by
        obtain ⟨n1, h1, e1⟩ := hv.ix b hb
        obtain ⟨n2, h2, e2⟩ := ha.ix b z
        have := nodup_apart (a := b) S.nd e2 e1 (by simp) (by simp)
        subst this
        exact dj n2 h2 h1
      have barv : ∀ b ∈ vr, ¬ Ma ad (BarOf C ρ ad vr) b := fun b hb z => by
        rcases z with z | ⟨_, _, z⟩ | z
        · exact vdj b hb z
        · exact z hb
        · exact (S.bar b z).1 (hv.mem b hb)
      have sub : ∀ b, Ma ad (BarOf C ρ ad vr) b → Mo C ρ b := fun b z => by
        rcases z with z | ⟨z, _, _⟩ | z
        · exact .inl (adm b z)
        · exact .inl z
        · exact .inr z
      refine ⟨ad, BarOf C ρ ad vr, ds, os, S.tab, k _ sub barv, nda, bar_of S adm, ?_⟩
      -- the other way round, where nothing is only looked at
      have sup : vw = [] → ∀ b, Mo C ρ b → Ma ad (BarOf C ρ ad vr) b := fun hw b z => by
        subst hw
        cases hv
        rcases z with z | z
        · by_cases hb : b ∈ ad
          · exact .inl hb
          · exact .inr (.inl ⟨z, hb, by simp⟩)
        · exact .inr (.inr z)
      have tups : ∀ {H' : Hp}, FrmK C.T ad H H' → ∀ a xs, QT K H' (Ma ad (BarOf C ρ ad vr)) a xs → QT K H' (Mo C ρ) a xs := fun {H'} hf => QT.of_lists fun b z => by
        rcases z with z | z
        · by_cases hb : b ∈ ad
          · exact .inl (.inl hb)
          · by_cases hb2 : b ∈ vr
            · obtain ⟨xs, ex⟩ := hvl b hb2
              exact .inr ⟨xs, hf.nt b _ ex hb nt_lst⟩
            · exact .inl (.inr (.inl ⟨z, hb, hb2⟩))
        · exact .inl (.inr (.inr z))
      cases q : m ds os with
      | bad => rw [q] at P; exact P.elim
      | ok d os' =>
        rw [q] at P
        dsimp only at P
        intro v H' hf oo rv hfr
        by_cases c2 : vw = [] ∨ os'.all obNoL = true
        · rw [if_pos c2] at P
          obtain ⟨S', st⟩ := call_after (C2 := { C with Bar := fun a => C.Bar a ∨ False }) (D := fun _ => False) S ha hv hvl ndn dj hf oo c2 rfl (fun _ z => z.elim) (fun _ z => z.elim)
          have eC : ({ C with Bar := fun a => C.Bar a ∨ False } : Fc) = C := by
            cases C
            simp
          rw [eC] at S' st
          refine P ρ v H' ⟨st, fun n fp e => ⟨fp, e, pfx_rfl⟩⟩ S' ?_
          rcases c.2 with hw | hw
          · exact Rp.fewer (sup hw) rv
          · rcases hfr hw with z | ⟨a, ws, ls, rfl, rfl, n0, e1, ra, z⟩
            · exact Rp.noLists (tups hf) d v z rv
            · refine .lst (.inl ⟨.inl e1, fun mm => ?_⟩) (RpAll.noLists (tups hf) ls ws z ra)
              obtain ⟨o, eo⟩ := S.trkM mm
              rw [n0] at eo; cases eo
        · rw [if_neg c2] at P; exact P.elim
      | err x os' =>
        rw [q] at P
        dsimp only at P
        intro H' cls d hf oo xn
        by_cases c2 : vw = [] ∨ (os'.all obNoL = true ∧ noLs (x.fs.map (·.2)) = true)
        · rw [if_pos c2] at P
          obtain ⟨S', st⟩ := call_after (C2 := { C with Bar := fun a => C.Bar a ∨ False }) (D := fun _ => False) S ha hv hvl ndn dj hf oo (c2.imp id And.left) rfl (fun _ z => z.elim) (fun _ z => z.elim)
          have eC : ({ C with Bar := fun a => C.Bar a ∨ False } : Fc) = C := by
            cases C
            simp
          rw [eC] at S' st
          refine P ρ H' cls d ⟨st, fun n fp e => ⟨fp, e, pfx_rfl⟩⟩ S' ⟨xn.1, xn.2.imp id fun ⟨nf, da, ws, h1, h2, h3, h4⟩ => ⟨nf, da, ws, h1, h2, h3, ?_⟩⟩
          rcases c2 with hw | hw
          · exact h4.fewer (sup hw)
          · exact RpAll.noLists (tups hf) _ _ hw.2 h4
        · rw [if_neg c2] at P; exact P.elim
    · rw [if_neg c] at P; exact P.elim
/-- .. whose list becomes one of the caller's own -/
theorem sp_callN {mg : Str → Option Value} {Wx : WX} {σ : St} {m : Fm} {io : List Bool} {ss : List Sl} {vs : List V} {Q : VK} (S : SimH K C ρ h H) (r : SlVs K C ρ H vs ss) (P : Po K mg C Wx σ ρ H (relE K C) (callN m io ss h) Q) :
    spOf K mg C.T true io m vs H Q fun cls d H' => Wx cls d σ H' := by
  unfold callN at P
  cases e : splitA io ss h with
  | none => rw [e] at P; exact P.elim
  | some q =>
    obtain ⟨ds, ns, os, vw⟩ := q
    rw [e] at P
    dsimp only at P
    by_cases c : apartN ns vw = true
    · rw [if_pos c] at P
      obtain ⟨ad, vr, ha, hv, hvl, k⟩ := split_roots S r e
      obtain ⟨nda, dj, ndn⟩ := apart_nodup S.nd ha c
      have adm := ha.mem
      have vdj : ∀ b ∈ vr, b ∉ ad := fun b hb z => by
        obtain ⟨n1, h1, e1⟩ := hv.ix b hb
        obtain ⟨n2, h2, e2⟩ := ha.ix b z
        have := nodup_apart (a := b) S.nd e2 e1 (by simp) (by simp)
        subst this
        exact dj n2 h2 h1
      have barv : ∀ b ∈ vr, ¬ Ma ad (BarOf C ρ ad vr) b := fun b hb z => by
        rcases z with z | ⟨_, _, z⟩ | z
        · exact vdj b hb z
        · exact z hb
        · exact (S.bar b z).1 (hv.mem b hb)
      have sub : ∀ b, Ma ad (BarOf C ρ ad vr) b → Mo C ρ b := fun b z => by
        rcases z with z | ⟨z, _, _⟩ | z
        · exact .inl (adm b z)
        · exact .inl z
        · exact .inr z
      refine ⟨ad, BarOf C ρ ad vr, ds, os, S.tab, k _ sub barv, nda, bar_of S adm, ?_⟩
      have sup : vw = [] → ∀ b, Mo C ρ b → Ma ad (BarOf C ρ ad vr) b := fun hw b z => by
        subst hw
        cases hv
        rcases z with z | z
        · by_cases hb : b ∈ ad
          · exact .inl hb
          · exact .inr (.inl ⟨z, hb, by simp⟩)
        · exact .inr (.inr z)
      have tups : ∀ {H' : Hp} {D : Ms}, (∀ b, D b → ∃ xs, H' b = some (.lst xs)) → FrmK C.T ad H H' → ∀ a xs, QT K H' (Ma ad (BarOf C ρ ad vr)) a xs → QT K H' (fun b => Mo C ρ b ∨ D b) a xs := fun {H' D} hd hf => QT.of_lists fun b z => by
        rcases z with (z | z) | z
        · by_cases hb : b ∈ ad
          · exact .inl (.inl hb)
          · by_cases hb2 : b ∈ vr
            · obtain ⟨xs, ex⟩ := hvl b hb2
              exact .inr ⟨xs, hf.nt b _ ex hb nt_lst⟩
            · exact .inl (.inr (.inl ⟨z, hb, hb2⟩))
        · exact .inl (.inr (.inr z))
        · exact .inr (hd b z)
      cases q : m ds os with
      | bad => rw [q] at P; exact P.elim
      | ok d os' =>
        rw [q] at P
        intro v H' hf oo rv hfr
        cases d with
        | list ls =>
          dsimp only at P
          by_cases c2 : os'.all obNoL = true
          · rw [if_pos c2] at P
            rcases hfr rfl with z | ⟨a, ws, ls', rfl, ed, n0, e1, ra, z⟩
            · simp [noL] at z
            · cases ed
              obtain ⟨S', st⟩ := call_after (C2 := C.plus a) (D := fun b => b = a) S ha hv hvl ndn dj hf oo (.inr c2) rfl (fun b z => by subst z; exact ⟨n0, ⟨_, e1⟩, c2⟩) (fun b z => by subst z; exact ⟨_, e1⟩)
              have ra' : RpAll K H' (Mo (C.plus a) ρ) ws ls := RpAll.fewer (fun b z => by
                rcases z with z | z | z
                · exact .inl (.inl z)
                · exact .inl (.inr z)
                · exact .inr z) (RpAll.noLists (tups (D := fun b => b = a) (fun b z => by subst z; exact ⟨_, e1⟩) hf) ls ws z ra)
              have h0 : C.H0 a = none := by
                cases q0 : C.H0 a with
                | none => rfl
                | some o =>
                  by_cases hw : a ∈ C.W.flatten
                  · obtain ⟨o', e'⟩ := S.wtr a hw
                    rw [n0] at e'; cases e'
                  · obtain ⟨o', e', _⟩ := S.frK a o q0 hw
                    rw [n0] at e'; cases e'
              have nb : ¬ C.Bar a := fun b => by
                obtain ⟨_, o, e'⟩ := S.bar a b
                rw [n0] at e'; cases e'
              have S2 := S'.adopt (ob := .lst ls) h0 nb ⟨a, ws, rfl, e1, ra'⟩
              refine P (ρ ++ [[a]]) (.ref a) H' ⟨⟨st.keepK, fun b mm => st.new b (Mo.adopt.mp mm)⟩, fun n fp e => ⟨fp, by
                rw [List.getElem?_append_left (List.getElem?_eq_some_iff.mp e).1]; exact e, pfx_rfl⟩⟩ S2 ?_
              rw [← S.len]
              exact SlV.pushed _
          · rw [if_neg c2] at P; exact P.elim
        | _ => exact P.elim
      | err x os' =>
        rw [q] at P
        dsimp only at P
        intro H' cls d hf oo xn
        by_cases c2 : vw = [] ∨ (os'.all obNoL = true ∧ noLs (x.fs.map (·.2)) = true)
        · rw [if_pos c2] at P
          obtain ⟨S', st⟩ := call_after (C2 := { C with Bar := fun a => C.Bar a ∨ False }) (D := fun _ => False) S ha hv hvl ndn dj hf oo (c2.imp id And.left) rfl (fun _ z => z.elim) (fun _ z => z.elim)
          have eC : ({ C with Bar := fun a => C.Bar a ∨ False } : Fc) = C := by
            cases C
            simp
          rw [eC] at S' st
          refine P ρ H' cls d ⟨st, fun n fp e => ⟨fp, e, pfx_rfl⟩⟩ S' ⟨xn.1, xn.2.imp id fun ⟨nf, da, ws, h1, h2, h3, h4⟩ => ⟨nf, da, ws, h1, h2, h3, ?_⟩⟩
          rcases c2 with hw | hw
          · exact h4.fewer (sup hw)
          · exact RpAll.fewer (fun b z => .inl z) (RpAll.noLists (tups (D := fun _ => False) (fun _ z => z.elim) hf) _ _ hw.2 h4)
        · rw [if_neg c2] at P; exact P.elim
    · rw [if_neg c] at P; exact P.elim
end
/-! ### the rules -/
section
variable {X : Cx} {C : Fc} {Wx : WX} {k : Nat} {f : Addr} {fd : FuncData} {ps : List Str} {m : Fm} {io : List Bool} {fr : Bool} {x : Str} {p pos : Pos} {e : Expr} {es : List Expr} {fa : Av}
theorem run_fnG {pins : List (Addr × Obj)} {σ : St} {H : Hp} {s : Shared} {Q : VK} {us : List Value} {vs : List V} {sp : Sp} (F : FnG X.prog X.w X.K X.mg X.base (L2.CX X.prog X.w) k f fd ps sp) (hgd : X.A.guards = some []) (hr : Room k X.A) (hb : Binds X.K fd ps []) (tk : Takes X Wx)
    (I : Inv X pins σ H s) (r : Vals vs us) (h : sp vs H Q fun cls d H' => Wx cls d σ H') : wpAny (model X.prog X.w) X.A (call (.ref f) us) (EP X pins σ Q) X.xe s := by
  have hl : us.length = ps.length := by rw [← r.length]; exact F.len _ _ _ _ h
  have b := hb s us I.kIn (by rw [List.append_nil]; exact hl)
  rw [List.append_nil] at b
  refine wpAny_call (codeAny_mono (F.run X.A X.stack s H ⟨us, []⟩ us vs Q _ hgd hr I.env0 b r h) ?_)
  rintro (er | fl) s' hq
  · exact tk _ s' (XE.of_call I (fun _ _ _ w => w) hq)
  · cases fl with
    | ret u => exact I.after hq
    | _ => exact False.elim hq
theorem fe_callG {g : List Sl → Hs → Rz Sl} {sp : Sp} (F : FnG X.prog X.w X.K X.mg X.base (L2.CX X.prog X.w) k f fd ps sp) (hgd : X.A.guards = some []) (hr : Room k X.A) (tk : Takes X Wx) (hg : Gl X x) (hm : X.mg x = some (.ref f)) (hk : PySem.W.keepIn X.K (.ref f) = true) (hb : Binds X.K fd ps [])
    (ha : FA X C Wx (e :: es) fa) (hsp : ∀ (σ : St) (ρ : Fps) (h : Hs) (H : Hp) (ss : List Sl) (vs : List V) (Q : VK), SimH X.K C ρ h H → SlVs X.K C ρ H vs ss → Po X.K X.mg C Wx σ ρ H (relE X.K C) (g ss h) Q → sp vs H Q fun cls d H' => Wx cls d σ H')
    (hdb : (x == ("__debug__" : Str)) = false := by decide) (he : starEach (e :: es) X.env = (false, eval e X.env) :: starEach es X.env := by rfl) (hpl : (backTo pos (starEach es X.env)).any (·.1) = false := by rfl) :
    FE X C Wx (.Call (.Name x p) (e :: es) [] pos) (fun env h => (fa env h).bind fun ss h => g ss h) := by
  refine ⟨fun pins s σ H Q I hh => wpAny_Call_Name_kw (ld_glob I hg hm ?_ hdb)⟩
  have h2 : rd X.K X.mg C Wx (relA X.K C) fa σ H fun vs H1 => sp vs H1 Q fun cls d H' => Wx cls d σ H' := rd.bind (f := fa) (g := fun ss _ h => g ss h) hh fun ρ1 env h1 ss vs H1 S1 E1 r1 P1 => hsp σ ρ1 h1 H1 ss vs Q S1 r1 P1
  refine PySem.W.callWith_K (h₀ := X.base) I.ok.mod.kin hk (thn (ha.run pos pins s σ H _ I h2) ?_) he hpl
  rintro us s1 ⟨vs, H1, I1, r, q⟩
  exact ⟨I1.kIn, run_fnG F hgd hr hb tk I1 r q⟩
theorem fe_call {T : List (Addr × Str)} (F : FnG X.prog X.w X.K X.mg X.base (L2.CX X.prog X.w) k f fd ps (spOf X.K X.mg T fr io m)) (hT : C.T = T) (hgd : X.A.guards = some []) (hr : Room k X.A) (tk : Takes X Wx) (hg : Gl X x) (hm : X.mg x = some (.ref f)) (hk : PySem.W.keepIn X.K (.ref f) = true) (hb : Binds X.K fd ps [])
    (ha : FA X C Wx (e :: es) fa) (hdb : (x == ("__debug__" : Str)) = false := by decide) (he : starEach (e :: es) X.env = (false, eval e X.env) :: starEach es X.env := by rfl) (hpl : (backTo pos (starEach es X.env)).any (·.1) = false := by rfl) :
    FE X C Wx (.Call (.Name x p) (e :: es) [] pos) (eCall m io fr fa) := fe_callG F hgd hr tk hg hm hk hb ha (fun σ ρ h H ss vs Q S r P => hT ▸ sp_call S r P) hdb he hpl
theorem fe_callN {T : List (Addr × Str)} (F : FnG X.prog X.w X.K X.mg X.base (L2.CX X.prog X.w) k f fd ps (spOf X.K X.mg T true io m)) (hT : C.T = T) (hgd : X.A.guards = some []) (hr : Room k X.A) (tk : Takes X Wx) (hg : Gl X x) (hm : X.mg x = some (.ref f)) (hk : PySem.W.keepIn X.K (.ref f) = true) (hb : Binds X.K fd ps [])
    (ha : FA X C Wx (e :: es) fa) (hdb : (x == ("__debug__" : Str)) = false := by decide) (he : starEach (e :: es) X.env = (false, eval e X.env) :: starEach es X.env := by rfl) (hpl : (backTo pos (starEach es X.env)).any (·.1) = false := by rfl) :
    FE X C Wx (.Call (.Name x p) (e :: es) [] pos) (eCallN m io fa) := fe_callG F hgd hr tk hg hm hk hb ha (fun σ ρ h H ss vs Q S r P => hT ▸ sp_callN S r P) hdb he hpl
end
end FL

namespace FL
open PySem PySem.Spec PyProof.Rows L2
/-! ### the end of a law -/
/-- the script and empty tables are tracked -/
def headH (a : Addr) (scr : Option HO) (ts : List Addr) : Hp := fun b => if b = a then scr else if b ∈ ts then some (.tbl #[]) else none
theorem headH_some {a b : Addr} {scr : Option HO} {ts : List Addr} {u : HO} (na : a ∉ ts) (e : headH a scr ts b = some u) : (b = a ∧ scr = some u) ∨ (b ∈ ts ∧ u = .tbl #[]) := by
  unfold headH at e
  split at e
  · rename_i hb
    exact .inl ⟨hb, e⟩
  · split at e
    · rename_i hb
      cases e
      exact .inr ⟨hb, rfl⟩
    · cases e
theorem headH_tab {a b : Addr} {scr : Option HO} {ts : List Addr} (na : a ∉ ts) (hb : b ∈ ts) : headH a scr ts b = some (.tbl #[]) := by
  unfold headH
  rw [if_neg (fun z : b = a => na (z ▸ hb)), if_pos hb]
theorem rp_ints {K : PySem.W.Frag} {H : Hp} {M : Ms} : ∀ ns : List Int, RpAll K H M (ns.map V.int) (ns.map PyData.int)
  | [] => .nil
  | n :: r => .cons (.int n) (rp_ints r)
/-- what the head tells of the tables -/
structure TabsAt (h : Heap) (K : PySem.W.Frag) (cs : List (Addr × Addr)) : Prop where
  at_ : ∀ p ∈ cs, h.get? p.2 = some { cls := .none, data := .fields #[] }
  noK : ∀ p ∈ cs, K.lookup p.2 = none
  code : ∀ p ∈ cs, PySem.W.CodeHd h p.1 p.2
/-- the run of the law from a state in which no more than the script and the tables are tracked -/
theorem lawG_core {P : Program} {w : World} {K : PySem.W.Frag} {mg mb : Str → Option Value} {k : Nat} {fa a : Addr} {fd : FuncData} {x : Str} {fr : Bool} {m : Fm} {s : Shared} {vs : List Value} {ns : List Int} {cs : List (Addr × Addr)} {T : List (Addr × Str)} {scr : Option HO}
    (hscr : ∀ u, scr = some u → ∃ o, u = .frz o (.lst (ns.map V.int)) ∧ K.lookup a = none) (hq : QL K (headH a scr (cs.map (·.2))) (fun _ => False) a (ns.map V.int)) (hok : HOk P w (headH a scr (cs.map (·.2))) s.heap)
    (KX : K.In s.heap) (hns : s.heap.Ns mainGlobals mg) (hb : s.heap.Ns builtinsNs mb) (hbb : ∀ x : Str, x ≠ "__name__" → mb x = bootBuiltins x) (hlim : s.heap.NoLimit) (hdig : s.heap.NoDigits) (hg : s.gens = #[])
    (hbm : ∃ (bm : Addr) (ob : Obj), mg "__builtins__" = some (.ref bm) ∧ bm ≠ builtinsNs ∧ s.heap.get? bm = some ob ∧ ob.cls = .type "module" ∧ ob.dict = some builtinsNs ∧ ob.data = .plain)
    (Tt : TabsAt s.heap K cs) (hT : ∀ p ∈ T, p.1 ∈ cs.map (·.2))
    (ha : s.heap.get? a = some { cls := .type "list", data := .seq vs.toArray }) (hr : Room k callerA)
    (F : ∀ base : Heap, K.In base → base.Ns mainGlobals mg → base.NoDigits → (∀ p ∈ cs, LamX.TabB base mg p.1 p.2) → FnG P w K mg base (L2.CX P w) k fa fd [x] (spOf K mg T fr [false] m)) (hbind : ∀ (s : Shared) (u : Value), BindsTo s fd ⟨[u], []⟩ [(x, u)])
    (hm : ∃ h', m [.list (ns.map PyData.int)] [] = .ok (.bool true) h') :
    codeAny (model P w) callerA (.call (.ref fa) ⟨[.ref a], []⟩) (fun r s' => r = .ok (.ret (.bool true)) ∧ OldK s.heap s'.heap ∧ s'.os = s.os ∧ AllBare s'.gens) s := by
  have tabAt : ∀ b ∈ cs.map (·.2), s.heap.get? b = some { cls := .none, data := .fields #[] } := fun b m => by
    obtain ⟨p, hp, rfl⟩ := List.mem_map.mp m
    exact Tt.at_ p hp
  have na : a ∉ cs.map (·.2) := fun z => by
    have q := tabAt a z
    rw [ha] at q
    cases (show Data.seq vs.toArray _ = Data.fields #[] from congrArg Obj.data (Option.some.inj q))
  generalize eH : headH a scr (cs.map (·.2)) = H at *
  have cases_ : ∀ {b : Addr} {u : HO}, H b = some u → (b = a ∧ scr = some u) ∨ (b ∈ cs.map (·.2) ∧ u = .tbl #[]) := fun {b u} e => by
    rw [← eH] at e
    exact headH_some na e
  have hid : ∀ {b : Addr} {u : Obj}, s.heap.get? b = some u → (∀ vs n, u.data ≠ .seq vs n) → u.data ≠ .fields #[] → H b = none := fun {b u} e h1 h2 => by
    cases q : H b with
    | none => rfl
    | some z =>
      rcases cases_ q with ⟨rfl, _⟩ | ⟨hb, _⟩
      · rw [ha] at e
        cases e
        exact absurd rfl (h1 _ _)
      · rw [tabAt b hb] at e
        cases e
        exact absurd rfl h2
  have plain : ∀ {b : Addr} {u : Obj} {es : Array DictEntry} {ep : Nat}, s.heap.get? b = some u → u.data = .dict es ep → H b = none := fun e d => hid e (fun _ _ z => by rw [d] at z; cases z) fun z => by rw [d] at z; cases z
  have nsK : ∀ {b : Addr} {mm : Str → Option Value}, s.heap.Ns b mm → (hidT s.heap H).Ns b mm := by
    rintro b mm ⟨u, es, ep, e, d, r⟩
    exact ⟨u, es, ep, hidT_get e (plain e d), d, r⟩
  have kb : K.In (hidT s.heap H) := by
    intro b u e
    refine hidT_get (KX b u e) ?_
    cases q : H b with
    | none => rfl
    | some z =>
      rcases cases_ q with ⟨rfl, hz⟩ | ⟨hb, _⟩
      · obtain ⟨_, _, hk⟩ := hscr z hz
        rw [hk] at e
        cases e
      · obtain ⟨p, hp, rfl⟩ := List.mem_map.mp hb
        rw [Tt.noK p hp] at e
        cases e
  obtain ⟨mc, l1, l2⟩ := hlim
  obtain ⟨mc2, l3, l4⟩ := hdig
  have md : Mod K mg (hidT s.heap H) := { kin := kb, glob := nsK hns, blt := ⟨mb, nsK hb, hbb⟩, nolimit := ⟨mc, nsK l1, l2⟩ }
  have TB : ∀ p ∈ cs, LamX.TabB (hidT s.heap H) mg p.1 p.2 := fun p hp => by
    refine { code := ?_, bm := ?_, gP := fun z => ?_ }
    · obtain ⟨o, us, file, tf, flags, tg, inF, text, tt, e1, r1, r2, r3, rest⟩ := Tt.code p hp
      exact ⟨o, us, file, tf, flags, tg, inF, text, tt, hidT_get e1 (hid e1 (fun _ _ z => by rw [r2] at z; cases z) fun z => by
        rw [r2] at z
        cases z
        simp at r3), r1, r2, r3, rest⟩
    · obtain ⟨bm, ob, b1, b2, b3, b4, b5, b6⟩ := hbm
      refine ⟨bm, ob, b1, b2, fun q => ?_, fun q => ?_, hidT_get b3 (hid b3 (fun _ _ z => by rw [b6] at z; cases z) fun z => by rw [b6] at z; cases z), b4, b5, b6⟩
      · obtain ⟨o, es, ep, e, hd, _⟩ := hns
        rw [q, e] at b3
        cases b3
        rw [hd] at b6
        cases b6
      · rw [q, Tt.at_ p hp] at b3
        cases b3
        cases b6
    · obtain ⟨o, es, ep, e, hd, _⟩ := hns
      rw [z, Tt.at_ p hp] at e
      cases e
      cases hd
  have e0 : Env0 P w K mg (hidT s.heap H) callerA [] s H := { frames := rfl, mod := md, bs := fun b u e => of_hidT e, bsz := Nat.le_of_eq (hidT_size _ _), funs := trivial, frf := fun b z => (nomatch z), hok := hok, bare := .of_eq hg }
  obtain ⟨h', em⟩ := hm
  have tabs : LamX.Tabs T H := fun p hp => LamX.TabS.nil (by rw [← eH]; exact headH_tab na (hT p hp))
  have sp : spOf K mg T fr [false] m [.ref a] H (fun v _ => v = .bl true) fun _ _ _ => False := by
    refine ⟨[], fun _ => False, [.list (ns.map PyData.int)], [], tabs, .val (.lst (QL.fewer (fun _ z => ?_) hq) (rp_ints ns)) .nil, by simp, fun _ z => z.elim, ?_⟩
    · rcases z with z | z
      · cases z
      · exact z
    rw [em]
    intro v H' _ _ r _
    cases r
    rfl
  refine codeAny_mono ((F _ kb (nsK hns) ⟨mc2, nsK l3, l4⟩ TB).run callerA [] s H ⟨[.ref a], []⟩ [.ref a] [.ref a] _ _ rfl hr e0 (hbind s (.ref a)) (.cons rfl .nil) sp) ?_
  rintro (er | fl) s' hq'
  · obtain ⟨_, _, _, _, _, _, _, _, _, _, _, _, z⟩ := hq'
    exact z.elim
  · cases fl with
    | ret u =>
      obtain ⟨v, H', os, bare, un, hok', r', q⟩ := hq'
      cases (show v = .bl true from q)
      cases (show u = Value.bool true from r')
      have same : ∀ b ob, b ∉ cs.map (·.2) → s.heap.get? b = some ob → s'.heap.get? b = some ob := fun b ob nb e => by
        cases q : H b with
        | none => exact un.keep b ob e q (fun z => nomatch z) (fun z => nomatch z)
        | some z =>
          rcases cases_ q with ⟨rfl, hz⟩ | ⟨hb, _⟩
          · obtain ⟨o, rfl, _⟩ := hscr z hz
            have e1 := (hok b _ q).1
            rw [e] at e1
            cases e1
            exact (hok' b _ (un.frzs b _ _ q)).1
          · exact absurd hb nb
      have more : ∀ p ∈ cs, ∃ mo : Array Value, s'.heap.get? p.2 = some { cls := .none, data := .fields mo } := fun p hp => by
        obtain ⟨mo, z⟩ := un.tbls p.2 #[] (by rw [← eH]; exact headH_tab na (List.mem_map.mpr ⟨p, hp, rfl⟩))
        exact ⟨_, hok' p.2 _ z⟩
      refine ⟨rfl, ⟨fun b ob e => ?_, fun b ob e => ?_⟩, os, bare⟩
      · by_cases hb : b ∈ cs.map (·.2)
        · obtain ⟨p, hp, rfl⟩ := List.mem_map.mp hb
          obtain ⟨mo, hmo⟩ := more p hp
          rw [Tt.at_ p hp] at e
          cases e
          exact .inr (.inl ⟨((Tt.code p hp).tab (Tt.at_ p hp)).isCodeTable, rfl, #[], mo, rfl, by rw [Array.empty_append]; exact hmo⟩)
        · exact .inl (same b ob hb e)
      · by_cases hb : b ∈ cs.map (·.2)
        · obtain ⟨p, hp, rfl⟩ := List.mem_map.mp hb
          obtain ⟨mo, hmo⟩ := more p hp
          exact ⟨_, hmo⟩
        · exact ⟨ob, same b ob hb e⟩
    | _ => exact False.elim hq'
theorem walkG {l : PySem.W.OpenLaw} {n k : Nat} {q : Program} {loose : List Str} {XP : (Str → Option Value) → Heap → Prop} {YP : World → Heap → Prop} {d : DefRec} {K : Params → PySem.W.Frag} {x : Str} {fr : Bool} {m : Fm}
    (hn : l.most = some n) (hn2 : n ≤ sizeLine) (hdf : d.params.defaults = []) (hr : Room k callerA) (hY : ∀ (w : World) (h : Heap), YP w h → (K w.params).In h)
    (F : ∀ (w : World) (mg mb : Str → Option Value) (mean : ExcName → Option Value) (fa : Addr) (h : Heap), YP w h → (K w.params).In h → PyProof.Rows.Top q (PySem.W.looseW q loose) mean mg mb h → mg d.name = some (.ref fa) →
      ∃ (fd : FuncData) (cs : List (Addr × Addr)) (T : List (Addr × Str)), (∀ (s : Shared) (u : Value), BindsTo s fd ⟨[u], []⟩ [(x, u)]) ∧ TabsAt h (K w.params) cs ∧ (∀ p ∈ T, p.1 ∈ cs.map (·.2)) ∧
        ∀ base : Heap, (K w.params).In base → base.Ns mainGlobals mg → base.NoDigits → (∀ p ∈ cs, LamX.TabB base mg p.1 p.2) → FnG l.prog w (K w.params) mg base (L2.CX l.prog w) k fa fd [x] (spOf (K w.params) mg T fr [false] m))
    (hm : ∀ ns : List Int, ns.length ≤ n → ∃ h', m [.list (ns.map PyData.int)] [] = .ok (.bool true) h') : PySem.W.WalkO q loose XP YP l.row.toRowW d [] (fun f vs => PySem.call f vs) := by
  refine Att.attach_call hn hdf ?_
  intro w s0 s mg mb fa o pm cd doc a vs ns G Y ho hd hcd hmg hobj hints hlen hg
  have KX := hY w _ Y
  obtain ⟨fd, cs, T, hb, Tt, hT, hF⟩ := F w mg mb _ fa _ Y KX G.T hmg
  have rv := vals_ints hints
  have lenV := hints.length
  have hl : ns.length ≤ sizeLine := Nat.le_trans hlen hn2
  have tabOk : ∀ b ∈ cs.map (·.2), s.heap.get? b = some { cls := .none, data := .fields #[] } := fun b mm => by
    obtain ⟨p, hp, rfl⟩ := List.mem_map.mp mm
    exact Tt.at_ p hp
  have na : a ∉ cs.map (·.2) := fun z => by
    have q := tabOk a z
    rw [hobj] at q
    cases (show Data.seq vs.toArray _ = Data.fields #[] from congrArg Obj.data (Option.some.inj q))
  cases hk : (K w.params).lookup a with
  | some u =>
    have e := KX a u hk
    rw [hobj] at e
    cases e
    refine lawG_core (scr := none) (ns := ns) (cs := cs) (T := T) (fun u e => by cases e) (.inr ⟨vs.toArray, _, hk, by rw [List.size_toArray, lenV]; exact hl, by simpa using rv⟩) (fun b z e => ?_) KX G.T.g G.T.b G.T.builtins G.T.nolimit G.T.nodigits hg G.T.bmain Tt hT hobj hr hF hb (hm ns hlen)
    rcases headH_some na e with ⟨_, z'⟩ | ⟨hb', rfl⟩
    · cases z'
    · exact tabOk b hb'
  | none =>
    refine lawG_core (scr := some (.frz { cls := .type "list", data := .seq vs.toArray } (.lst (ns.map V.int)))) (ns := ns) (cs := cs) (T := T) (fun u e => by cases e; exact ⟨_, rfl, hk⟩) (.inl ⟨.inr ⟨_, if_pos rfl⟩, fun z => z⟩) (fun b z e => ?_) KX G.T.g G.T.b G.T.builtins G.T.nolimit G.T.nodigits hg G.T.bmain Tt hT hobj hr hF hb (hm ns hlen)
    rcases headH_some na e with ⟨rfl, z'⟩ | ⟨hb', rfl⟩
    · cases z'
      exact ⟨hobj, by rw [List.length_map]; exact hl, vs, _, rv, hobj⟩
    · exact tabOk b hb'
end FL

namespace FL
open PySem PySem.Spec PyProof.Rows L2
/-! ### more primitives -/
def gNeg : Sl → Hs → Option PyData := fun s _ => match s with
  | .val (.int i) => some (.int (-i))
  | _ => none
def gRev : Sl → Hs → Option PyData := fun s h => match s with
  | .val (.tuple ds) => some (.tuple ds.reverse)
  | s => (litems s h).map fun ds => .list ds.reverse
section
variable {prog : Program} {w : World} {A : Around} {E : Value → Shared → Prop} {s : Shared}
theorem applied_back {sl : Addr} {vl vu vk : Value} {n : Nat} {Q : Int × Int × Nat → Shared → Prop} (hs : s.heap.IsSliceOf sl vl vu vk) (pl : IsPart vl none) (pu : IsPart vu none) (pk : IsPart vk (some (-1)))
    (h : Q ((n : Int) - 1, -1, n) s) : wpAny (model prog w) A (Builtin.Slice.sliceApplied (.ref sl) (pure (n : Int))) Q E s := by
  obtain ⟨os, hos, hcs, hds⟩ := id hs
  unfold Builtin.Slice.sliceApplied Builtin.Slice.sliceFields
  refine wpAny_bind (wpAny_bind (wpAny_field hos hds (x := vl) rfl (wpAny_bind (wpAny_field hos hds (x := vu) rfl (wpAny_bind (wpAny_field hos hds (x := vk) rfl (wpAny_pure ?_)))))))
  refine wpAny_bind (HT.slicePart_ pk ?_)
  show wpAny _ _ (if ((-1 : Int) == 0) = true then _ else _) _ _ s
  rw [if_neg (by decide)]
  refine wpAny_bind (HT.slicePart_ pl (wpAny_bind (HT.slicePart_ pu (wpAny_bind (wpAny_pure ?_)))))
  have e : Builtin.Slice.slicePlaces ((n : Int) - 1) (-1) (-1) = n := by
    unfold Builtin.Slice.slicePlaces
    rw [if_neg (by decide), show (- -1 : Int) = 1 from rfl, Int.ediv_one]
    split <;> omega
  show wpAny _ _ (pure ((n : Int) - 1, (-1 : Int), Builtin.Slice.slicePlaces ((n : Int) - 1) (-1) (-1))) _ _ s
  rw [e]
  exact wpAny_pure h
theorem pick_back (xs : List Value) : ((List.range xs.length).filterMap fun (m : Nat) => xs.toArray[(((xs.length : Int) - 1) + (m : Int) * -1).toNat]?) = xs.reverse := by
  have key : ∀ k, k ≤ xs.length → ((List.range k).filterMap fun (m : Nat) => xs.toArray[(((xs.length : Int) - 1) + (m : Int) * -1).toNat]?) = xs.reverse.take k := by
    intro k
    induction k with
    | zero => intro _; simp
    | succ k ih =>
      intro hk
      rw [List.range_succ, List.filterMap_append, ih (by omega), List.take_add_one]
      congr 1
      have e1 : (((xs.length : Int) - 1) + (k : Int) * -1).toNat = xs.length - 1 - k := by omega
      have h2 : xs.length - 1 - k < xs.length := by omega
      rw [List.getElem?_reverse (by omega)]
      simp only [List.filterMap_cons, List.filterMap_nil, e1, List.getElem?_toArray]
      rw [List.getElem?_eq_getElem h2]
      rfl
  rw [key xs.length (Nat.le_refl _)]
  rw [List.take_of_length_le (by simp)]
theorem getItem_tuple_back {t sl : Addr} {items : List Value} {vl vu vk : Value} {Q : Value → Shared → Prop} (ht : IsTup s.heap t items.toArray) (hs : s.heap.IsSliceOf sl vl vu vk) (pl : IsPart vl none) (pu : IsPart vu none) (pk : IsPart vk (some (-1))) (hsz : items.length ≤ sizeLine)
    (h : Q (.ref s.heap.objs.size) { s with heap := s.heap.push { cls := .type "tuple", data := .seq items.reverse.toArray } }) : wpAny (model prog w) A (getItem (.ref t) (.ref sl)) Q E s := by
  obtain ⟨os, hos, hcs, hds⟩ := id hs
  have tys : s.TypeIs (.ref sl) "slice" := ⟨os, hos, hcs⟩
  have sz : sizeOk (.seq items.reverse.toArray) := by
    show items.reverse.toArray.size ≤ sizeLine
    simpa using hsz
  unfold getItem
  try with_reducible refine wpAny_holding ?_
  first | refine wpAny_bind (wpAny_pure ?_) | skip
  refine wpAny_bind (wpAny_sequenceKey ht.typeIs (by decide) ?_)
  refine wpAny_bind (wpAny_callSpecial?_slot (name := Str.ofString "__getitem__") ht.typeIs PyProof.Rows.slot_tuple_getitem (wpAny_call_entry PyProof.Rows.slot_tuple_getitem ht.typeIs entry_tuple_getitem ?_ (args_tuple_getitem _ _)))
  show wpAny _ _ (Builtin.Tuple.tupleItemsOf (.ref t) >>= _) _ _ s
  refine wpAny_bind (tupleItemsOf_ ht (wpAny_bind (wpAny_typeOf tys ?_)))
  rw [if_pos (by decide)]
  refine wpAny_bind ?_
  rw [List.size_toArray]
  refine applied_back hs pl pu pk ?_
  have no : ¬ ((((items.length : Int) - 1) == 0 && (-1 : Int) == 1 && items.length == items.toArray.size) = true) := by simp
  show wpAny _ _ (if ((((items.length : Int) - 1) == 0 && (-1 : Int) == 1 && items.length == items.toArray.size) = true) then _ else _) _ _ s
  rw [if_neg no, pick_back]
  first
    | exact wpAny_bind (m := Builtin.Tuple.tupleExact _) (wpAny_newObj_type (wpAny_pure ⟨_, rfl, wpAny_pure h⟩) sz)
    | exact wpAny_bind (m := Builtin.Tuple.tupleExact _) (wpAny_newObj_type (wpAny_bind (wpAny_pure (wpAny_pure ⟨_, rfl, wpAny_pure h⟩))) sz)
    | exact wpAny_bind (wpAny_bind (m := Builtin.Tuple.tupleExact _) (wpAny_newObj_type (wpAny_pure (wpAny_pure ⟨_, rfl, wpAny_pure h⟩)) sz))
    | exact wpAny_bind (wpAny_bind (m := Builtin.Tuple.tupleExact _) (wpAny_newObj_type (wpAny_pure ⟨_, rfl, wpAny_pure h⟩) sz))
end
section
variable {X : Cx} {C : Fc} {Wx : WX} {e : Expr} {f : Ev} {k : Nat} {p1 p2 p3 pos : Pos}
theorem u_neg : UnR X (unaryOp .USub) (rd1 X.K C gNeg) := UnR.imp un_neg fun x H Q ⟨ρ, h, s, d, S, r, e, k⟩ => by
  unfold gNeg at e
  split at e
  · rename_i i
    cases (show Rp X.K H (Mo C ρ) x (.int i) from r)
    cases e
    exact ⟨i, rfl, k _ H (Ex.refl _ _ _) S (.int _)⟩
  · cases e
/-- x[::-1] of a tuple -/
def tRevT (K : PySem.W.Frag) (te : TE) : TE := fun σ H Q => te σ H fun x H1 => ∃ a xs, x = .ref a ∧ SqT K H1 a xs ∧ ∀ p, H1 p = none → Q (.ref p) (upd H1 p (.tup xs.reverse))
theorem pe_revT {te : TE} (he : PE X e te) : PE X (.Subscript e (.Slice none none (some (.UnaryOp .USub (.Constant (.int 1) k p1) p2)) p3) pos) (tRevT X.K te) := by
  constructor
  intro pins s σ H Q I h
  refine Subscript_ (thn (he.run pins s σ H _ I h) ?_)
  rintro v s1 ⟨x, H1, I1, r1, a, xs, rfl, hx, q⟩
  cases r1
  have st : PO X (some (.UnaryOp .USub (.Constant (.int 1) k p1) p2)) (tPart (tUn (rU fun i => .int (-i)) (tC (.int 1)))) := po_some (pe_un un_neg pe_int)
  refine wpAny_Slice (thn (po_none.run pins s1 σ H1 (fun o H2 => o = none ∧ H2 = H1) I1 ⟨rfl, rfl⟩) ?_)
  rintro vl s2 ⟨l, H2, I2, pl, rfl, rfl⟩
  refine thn (po_none.run pins s2 σ _ (fun o H3 => o = none ∧ H3 = H2) I2 ⟨rfl, rfl⟩) ?_
  rintro vu s3 ⟨u, H3, I3, pu, rfl, rfl⟩
  refine thn (st.run pins s3 σ _ (fun o H4 => o = some (-1) ∧ H4 = H3) I3 ⟨1, rfl, -1, rfl, rfl, rfl⟩) ?_
  rintro vs s4 ⟨o, H4, I4, ps, rfl, rfl⟩
  have I5 : Inv X pins σ H4 { s4 with heap := s4.heap.push { cls := .type "slice", data := .fields #[vl, vu, vs] } } := I4.kept (t' := s4.toks) fun b ob q => Heap.get?_push_of_some _ q
  obtain ⟨its, r, ht, hz⟩ := I5.tuple hx
  have hlen := r.length
  show wpAny (model X.prog X.w) X.A (subscriptTail e _ (.ref a) (.ref s4.heap.objs.size)) (EP X pins σ Q) X.xe { s4 with heap := s4.heap.push { cls := .type "slice", data := .fields #[vl, vu, vs] } }
  refine tail_any (ops := [.ref a, .ref s4.heap.objs.size]) ht.typeIs (PyProof.Rows.slot_tuple_getitem.lookup) ?_ (by with_unfolding_all rfl)
  refine getItem_tuple_back ht (Heap.IsSliceOf.new _ vl vu vs) pl pu ps (by omega) ?_
  exact ⟨.ref _, _, I5.laid (t' := s4.toks) (o := .tup xs.reverse) (fun b ob q => Heap.get?_push_of_some _ q) (Nat.le_refl _) ⟨by rw [List.length_reverse]; exact hz, _, r.reverse, ⟨_, Heap.get?_push_size _ rfl, rfl, _, rfl⟩⟩, rfl, q _ (I5.hok.fresh (Nat.le_refl _))⟩
theorem PE.two {t t' u : TE} (h : PE X e t) (h' : PE X e t') (i : ∀ σ H Q, u σ H Q → t σ H Q ∨ t' σ H Q) : PE X e u := ⟨fun pins s σ H Q I q => by
  rcases i σ H Q q with z | z
  · exact h.run pins s σ H Q I z
  · exact h'.run pins s σ H Q I z⟩
theorem fe_rev (he : FE X C Wx e f) : FE X C Wx (.Subscript e (.Slice none none (some (.UnaryOp .USub (.Constant (.int 1) k p1) p2)) p3) pos) (cUn gRev f) := by
  refine PE.two (pe_revT he) (pe_revL he) fun σ H Q p => ?_
  obtain ⟨ρ, env, h, S, E, P⟩ := id p
  have P' : Po X.K X.mg C Wx σ ρ H (relE X.K C) ((f env h).bind fun s h => .give (gRev s h) h) Q := P
  cases q : f env h with
  | bad => rw [q] at P'; exact P'.elim
  | err y h1 => rw [q] at P'; exact .inl ⟨ρ, env, h, S, E, by rw [q]; exact P'⟩
  | ok s h1 =>
    rw [q] at P'
    by_cases ht : ∃ ds, s = .val (.tuple ds)
    · obtain ⟨ds, rfl⟩ := ht
      refine .inl ⟨ρ, env, h, S, E, ?_⟩
      rw [q]
      intro ρ1 v H1 x1 S1 r1
      cases (show Rp X.K H1 (Mo C ρ1) v (.tuple ds) from r1) with
      | tup qq ra => exact ⟨_, _, rfl, qq.sq, fun p hp => P' ρ1 _ _ (x1.trans (Ex.laid S1 hp)) (S1.laid hp) (Rp.newTup S1 hp ra.rev)⟩
    · refine .inr ⟨ρ, env, h, S, E, ?_⟩
      rw [q]
      intro ρ1 v H1 x1 S1 r1
      have eg : gRev s h1 = (litems s h1).map fun ds => .list ds.reverse := by
        unfold gRev
        split
        · exact absurd ⟨_, rfl⟩ ht
        · rfl
      obtain ⟨d, e1, kk⟩ := (Po.ex x1 P').given
      rw [eg] at e1
      obtain ⟨ds, e2, rfl⟩ := map_some e1
      obtain ⟨a, vs, rfl, sq, ra⟩ := litems_rel S1 r1 e2
      exact ⟨a, vs, rfl, sq, fun p hp => kk _ _ (Ex.laid S1 hp) (S1.laid hp) (Rp.newLst S1 hp ra.rev)⟩
end
end FL

namespace FL
open PySem PySem.Spec PyProof.Rows L2
/-! ### reckoning a mirror -/
section
variable {env e : En} {h h' : Hs} {f g f1 f2 f3 : Ev} {a : Av} {s t u : Sl} {ss : List Sl} {c d : Tv} {p q : Sv} {x : PyData} {y : Exn}
@[simp] theorem v_bind {α β : Type} {z : α} {k : α → Hs → Rz β} : (Rz.ok z h).bind k = k z h := id rfl
@[simp] theorem v_bindE {α β : Type} {k : α → Hs → Rz β} : (Rz.err y h : Rz α).bind k = .err y h := id rfl
@[simp] theorem v_bindB {α β : Type} {k : α → Hs → Rz β} : (Rz.bad : Rz α).bind k = .bad := id rfl
@[simp] theorem v_fl {α : Type} {z : α} {k : α → Hs → Fl} : (Rz.ok z h).fl env k = k z h := id rfl
@[simp] theorem v_flE {α : Type} {k : α → Hs → Fl} : (Rz.err y h : Rz α).fl env k = .err y env h := id rfl
@[simp] theorem v_flB {α : Type} {k : α → Hs → Fl} : (Rz.bad : Rz α).fl env k = .bad := id rfl
@[simp] theorem v_give : Rz.give (some x) h = .ok (.val x) h := id rfl
@[simp] theorem v_truth {b : Bool} : Rz.truth (.val (.bool b)) h = .ok b h := id rfl
def slot? (o : Option (Option Sl)) (h : Hs) : Rz Sl := match o with
  | some (some s) => .ok s h
  | _ => .bad
@[simp] theorem v_slot : slot? (some (some s)) h = .ok s h := id rfl
@[simp] theorem v_var {i : Nat} : eVar i env h = slot? env[i]? h := id rfl
@[simp] theorem v_k : eK x env h = .ok (.val x) h := id rfl
@[simp] theorem v_bin {g : G2} : cBin g f1 f2 env h = (f1 env h).bind fun s h => (f2 env h).bind fun t h => .give (g s t h) h := id rfl
@[simp] theorem v_un {g : Sl → Hs → Option PyData} : cUn g f env h = (f env h).bind fun s h => .give (g s h) h := id rfl
@[simp] theorem v_cb {g : GL} : cCB g a env h = (a env h).bind fun ss h => .give (g ss h) h := id rfl
@[simp] theorem v_tv : tV f env h = (f env h).bind fun s h => .truth s h := id rfl
@[simp] theorem v_tno : tNo c env h = (c env h).bind fun b h => .ok (!b) h := id rfl
@[simp] theorem v_tan : tAn c d env h = (c env h).bind fun b h => if b = true then d env h else .ok false h := id rfl
@[simp] theorem v_tor : tOr_ c d env h = (c env h).bind fun b h => if b = true then .ok true h else d env h := id rfl
@[simp] theorem v_tt : tTrue env h = .ok true h := id rfl
def and? (s : Sl) (h : Hs) (r : Rz Sl) : Rz Sl := match s with
  | .val (.bool true) => r
  | .val (.bool false) => .ok (.val (.bool false)) h
  | _ => .bad
def or? (s : Sl) (h : Hs) (r : Rz Sl) : Rz Sl := match s with
  | .val (.bool true) => .ok (.val (.bool true)) h
  | .val (.bool false) => r
  | _ => .bad
def not? (s : Sl) (h : Hs) : Rz Sl := match s with
  | .val (.bool b) => .ok (.val (.bool (!b))) h
  | _ => .bad
@[simp] theorem v_andT {r : Rz Sl} : and? (.val (.bool true)) h r = r := id rfl
@[simp] theorem v_andF {r : Rz Sl} : and? (.val (.bool false)) h r = .ok (.val (.bool false)) h := id rfl
@[simp] theorem v_orT {r : Rz Sl} : or? (.val (.bool true)) h r = .ok (.val (.bool true)) h := id rfl
@[simp] theorem v_orF {r : Rz Sl} : or? (.val (.bool false)) h r = r := id rfl
theorem v_andB {b : Bool} {r : Rz Sl} : and? (.val (.bool b)) h r = if b = true then r else .ok (.val (.bool false)) h := by cases b <;> rfl
theorem v_orB {b : Bool} {r : Rz Sl} : or? (.val (.bool b)) h r = if b = true then .ok (.val (.bool true)) h else r := by cases b <;> rfl
/-- where both sides are reckoned -/
@[simp] theorem v_andO {b c : Bool} : and? (.val (.bool b)) h (.ok (.val (.bool c)) h) = .ok (.val (.bool (b && c))) h := by cases b <;> rfl
@[simp] theorem v_orO {b c : Bool} : or? (.val (.bool b)) h (.ok (.val (.bool c)) h) = .ok (.val (.bool (b || c))) h := by cases b <;> rfl
@[simp] theorem v_notB {b : Bool} : not? (.val (.bool b)) h = .ok (.val (.bool (!b))) h := id rfl
@[simp] theorem v_and : eAnd f g env h = (f env h).bind fun s h => and? s h (g env h) := by
  unfold eAnd and?; rfl
@[simp] theorem v_or : eOr f g env h = (f env h).bind fun s h => or? s h (g env h) := by
  unfold eOr or?; rfl
@[simp] theorem v_not : eNot f env h = (f env h).bind fun s h => not? s h := by
  unfold eNot; congr
@[simp] theorem v_if : eIf c f g env h = (c env h).bind fun b h => if b = true then f env h else g env h := id rfl
def chain? (o : Option PyData) (h : Hs) (r : Rz Sl) : Rz Sl := match o with
  | some (.bool true) => r
  | some (.bool false) => .ok (.val (.bool false)) h
  | _ => .bad
@[simp] theorem v_chainT {r : Rz Sl} : chain? (some (.bool true)) h r = r := id rfl
@[simp] theorem v_chainF {r : Rz Sl} : chain? (some (.bool false)) h r = .ok (.val (.bool false)) h := id rfl
@[simp] theorem v_chainO {b c : Bool} : chain? (some (.bool b)) h (.ok (.val (.bool c)) h) = .ok (.val (.bool (b && c))) h := by cases b <;> rfl
@[simp] theorem v_chain {g1 g2 : G2} : eChain g1 g2 f1 f2 f3 env h = (f1 env h).bind fun s h => (f2 env h).bind fun t h => chain? (g1 s t h) h ((f3 env h).bind fun u h => .give (g2 t u h) h) := by
  unfold eChain chain?; rfl
@[simp] theorem v_anil : aNil env h = .ok [] h := id rfl
@[simp] theorem v_acons : aCons f a env h = (f env h).bind fun s h => (a env h).bind fun ss h => .ok (s :: ss) h := id rfl
@[simp] theorem v_valsN : vals? [] = some [] := id rfl
@[simp] theorem v_valsC : vals? (.val x :: ss) = (vals? ss).map (x :: ·) := id rfl
def line? (n : Nat) (z : PyData) : Option PyData := if lineOk n then some z else none
theorem v_line {n : Nat} {z : PyData} (hn : n ≤ 16777216) : line? n z = some z := by unfold line? lineOk; rw [if_pos (decide_eq_true hn)]
@[simp] theorem v_tup : eTup a env h = (a env h).bind fun ss h => .give ((vals? ss).bind fun ds => line? ds.length (.tuple ds)) h := id rfl
@[simp] theorem v_lst : eLst a env h = (a env h).bind fun ss h => .give ((vals? ss).bind fun ds => line? ds.length (.list ds)) h := id rfl
def new? (o : Option (List PyData)) (h : Hs) : Rz Sl := match o with
  | some ds => if lineOk ds.length then .ok (.loc h.length) (h ++ [.lst ds]) else .bad
  | none => .bad
theorem v_new1 {ds : List PyData} (hn : ds.length ≤ 16777216) : new? (some ds) h = .ok (.loc h.length) (h ++ [.lst ds]) := by unfold new? lineOk; dsimp only; rw [if_pos (decide_eq_true hn)]
@[simp] theorem v_new : eNew a env h = (a env h).bind fun ss h => new? (vals? ss) h := by unfold eNew new?; congr
/-! ### primitives -/
@[simp] theorem v_gI {k : Int → Int → Option PyData} {i j : Int} : gI k (.val (.int i)) (.val (.int j)) h = k i j := id rfl
@[simp] theorem v_fAdd {i j : Int} : fAdd i j = some (.int (i + j)) := id rfl
@[simp] theorem v_fSub {i j : Int} : fSub i j = some (.int (i - j)) := id rfl
@[simp] theorem v_fLt {i j : Int} : fLt i j = some (.bool (decide (i < j))) := id rfl
@[simp] theorem v_fLe {i j : Int} : fLe i j = some (.bool (decide (i ≤ j))) := id rfl
@[simp] theorem v_fGt {i j : Int} : fGt i j = some (.bool (decide (j < i))) := id rfl
@[simp] theorem v_fGe {i j : Int} : fGe i j = some (.bool (decide (j ≤ i))) := id rfl
theorem v_fMulL {i j : Int} (h1 : -18446744073709551616 < i) (h2 : i < 18446744073709551616) : fMul i j = some (.int (i * j)) := by unfold fMul; rw [if_pos (Or.inl ⟨h1, h2⟩)]
theorem v_fMulR {i j : Int} (h1 : -18446744073709551616 < j) (h2 : j < 18446744073709551616) : fMul i j = some (.int (i * j)) := by unfold fMul; rw [if_pos (Or.inr ⟨h1, h2⟩)]
theorem v_fMod {i j : Int} (h1 : 0 < j) : fMod i j = some (.int (i % j)) := by unfold fMod; rw [if_pos h1]
theorem v_fDivW {i j : Int} (h1 : 0 < j) (h2 : j < 18446744073709551616) : fDiv i j = some (.int (i / j)) := by unfold fDiv; rw [if_pos ⟨h1, h2⟩]
theorem v_fDiv {i j : Int} (h1 : 0 < j) (h2 : j < 1073741824) : fDiv i j = some (.int (i / j)) := v_fDivW h1 (by omega)
@[simp] theorem v_isaI {c : String} {i : Int} : gIsa c (.val (.int i)) h = some (.bool (isaN c "int")) := id rfl
@[simp] theorem v_isaB {c : String} {i : Bool} : gIsa c (.val (.bool i)) h = some (.bool (isaN c "bool")) := id rfl
@[simp] theorem v_isaS {c : String} {i : PySem.Str} : gIsa c (.val (.str i)) h = some (.bool (isaN c "str")) := id rfl
@[simp] theorem v_isaN {c : String} : gIsa c (.val .none) h = some (.bool (isaN c "NoneType")) := id rfl
@[simp] theorem v_isaT {c : String} {ds : List PyData} : gIsa c (.val (.tuple ds)) h = some (.bool (isaN c "tuple")) := id rfl
@[simp] theorem v_isaL {c : String} {ds : List PyData} : gIsa c (.val (.list ds)) h = some (.bool (isaN c "list")) := id rfl
@[simp] theorem v_isa1 : isaN "int" "int" = true := by decide
@[simp] theorem v_isa2 : isaN "bool" "int" = false := by decide
@[simp] theorem v_isa3 : isaN "tuple" "int" = false := by decide
@[simp] theorem v_isa4 : isaN "int" "bool" = true := by decide
@[simp] theorem v_isa5 : isaN "bool" "bool" = true := by decide
@[simp] theorem v_isa6 : isaN "tuple" "tuple" = true := by decide
@[simp] theorem v_isa7 : isaN "tuple" "list" = false := by decide
@[simp] theorem v_isa8 : isaN "tuple" "str" = false := by decide
@[simp] theorem v_isa9 : isaN "tuple" "NoneType" = false := by decide
@[simp] theorem v_isa10 : isaN "tuple" "bool" = false := by decide
@[simp] theorem v_isa11 : isaN "int" "tuple" = false := by decide
@[simp] theorem v_isa12 : isaN "int" "list" = false := by decide
@[simp] theorem v_isa13 : isaN "int" "str" = false := by decide
@[simp] theorem v_isa14 : isaN "int" "NoneType" = false := by decide
@[simp] theorem v_isa15 : isaN "list" "list" = true := by decide
@[simp] theorem v_isa16 : isaN "list" "tuple" = false := by decide
@[simp] theorem v_isa17 : isaN "str" "str" = true := by decide
@[simp] theorem v_itT {ds : List PyData} : items (.val (.tuple ds)) h = some ds := id rfl
@[simp] theorem v_itL {ds : List PyData} : items (.val (.list ds)) h = some ds := id rfl
@[simp] theorem v_liL {ds : List PyData} : litems (.val (.list ds)) h = some ds := id rfl
def obL (o : Option Ob) : Option (List PyData) := match o with
  | some (.lst ds) => some ds
  | _ => none
@[simp] theorem v_obL {ds : List PyData} : obL (some (.lst ds)) = some ds := id rfl
@[simp] theorem v_itO {n : Nat} : items (.loc n) h = obL h[n]? := by unfold items obL; rfl
@[simp] theorem v_liO {n : Nat} : litems (.loc n) h = obL h[n]? := by unfold litems obL; rfl
@[simp] theorem v_datV : dat (.val x) h = some x := id rfl
@[simp] theorem v_datO {n : Nat} : dat (.loc n) h = (obL h[n]?).map PyData.list := by
  show (match h[n]? with | some (.lst ds) => some (PyData.list ds) | _ => none) = _
  cases h[n]? with
  | none => rfl
  | some o => cases o <;> rfl
@[simp] theorem v_eqI {i j : Int} : gEq (.val (.int i)) (.val (.int j)) h = some (.bool (decide (i = j))) := by
  show some (PyData.bool (i == j)) = _
  by_cases q : i = j <;> simp [q]
@[simp] theorem v_neI {i j : Int} : gNe (.val (.int i)) (.val (.int j)) h = some (.bool (!decide (i = j))) := by
  show some (PyData.bool (!(i == j))) = _
  by_cases q : i = j <;> simp [q]
def ix? (o : Option (List PyData)) (t : Sl) : Option PyData := match o, t with
  | some ds, .val (.int i) => atI ds i
  | _, _ => none
@[simp] theorem v_ix : gIx s t h = ix? (items s h) t := by unfold gIx ix?; rfl
@[simp] theorem v_ix1 {ds : List PyData} {i : Int} : ix? (some ds) (.val (.int i)) = atI ds i := id rfl
@[simp] theorem v_lix : lix s t h = ix? (litems s h) t := by unfold lix ix?; rfl
theorem v_atN {ds : List PyData} {n : Nat} {i : Int} (e : i = (n : Int)) : atI ds i = ds[n]? := by
  subst e
  unfold atI ixN
  rw [if_pos (Int.natCast_nonneg n)]
  by_cases q : (n : Int) < ds.length
  · rw [if_pos q]; rfl
  · rw [if_neg q, List.getElem?_eq_none (by omega)]; rfl
@[simp] theorem v_at0 {ds : List PyData} : atI ds 0 = ds[0]? := v_atN rfl
@[simp] theorem v_at1 {ds : List PyData} : atI ds 1 = ds[1]? := v_atN rfl
@[simp] theorem v_at2 {ds : List PyData} : atI ds 2 = ds[2]? := v_atN rfl
@[simp] theorem v_at3 {ds : List PyData} : atI ds 3 = ds[3]? := v_atN rfl
@[simp] theorem v_atC {ds : List PyData} {n : Nat} : atI ds (n : Int) = ds[n]? := v_atN rfl
@[simp] theorem v_len : gLen [s] h = (items s h).map fun ds => .int ds.length := id rfl
@[simp] theorem v_all : gAll [s] h = ((litems s h).bind bools?).map fun bs => .bool (bs.all id) := id rfl
@[simp] theorem v_any : gAny [s] h = ((litems s h).bind bools?).map fun bs => .bool (bs.any id) := id rfl
@[simp] theorem v_sum : gSum [s] h = ((litems s h).bind ints?).map fun bs => .int bs.sum := id rfl
@[simp] theorem v_intI {i : Int} : gInt [.val (.int i)] h = some (.int i) := id rfl
@[simp] theorem v_intB {b : Bool} : gInt [.val (.bool b)] h = some (.int (if b = true then 1 else 0)) := id rfl
@[simp] theorem v_max2 {i j : Int} : gMax2 [.val (.int i), .val (.int j)] h = some (.int (max i j)) := by
  show some (PyData.int (if j > i then j else i)) = _
  congr 2; omega
@[simp] theorem v_min2 {i j : Int} : gMin2 [.val (.int i), .val (.int j)] h = some (.int (min i j)) := by
  show some (PyData.int (if j < i then j else i)) = _
  congr 2; omega
@[simp] theorem v_tuple : gTuple [s] h = (items s h).map fun ds => .tuple ds := id rfl
@[simp] theorem v_list : gList [s] h = (items s h).map fun ds => .list ds := id rfl
@[simp] theorem v_revT {ds : List PyData} : gRev (.val (.tuple ds)) h = some (.tuple ds.reverse) := id rfl
theorem bools_map {α : Type} (f : α → Bool) : ∀ xs : List α, bools? (xs.map fun x => .bool (f x)) = some (xs.map f)
  | [] => rfl
  | x :: xs => by show (bools? (xs.map fun x => .bool (f x))).map (f x :: ·) = _; rw [bools_map f xs]; rfl
theorem ints_map {α : Type} (f : α → Int) : ∀ xs : List α, ints? (xs.map fun x => .int (f x)) = some (xs.map f)
  | [] => rfl
  | x :: xs => by show (ints? (xs.map fun x => .int (f x))).map (f x :: ·) = _; rw [ints_map f xs]; rfl
@[simp] theorem v_onone : oNone env h = .ok none h := id rfl
def osome? (s : Sl) (h : Hs) : Rz (Option Int) := match s with
  | .val (.int i) => .ok (some i) h
  | _ => .bad
@[simp] theorem v_osome1 {i : Int} : osome? (.val (.int i)) h = .ok (some i) h := id rfl
@[simp] theorem v_osome : oSome f env h = (f env h).bind fun s h => osome? s h := by unfold oSome; congr
@[simp] theorem v_sl {lo hi : En → Hs → Rz (Option Int)} : eSl f lo hi env h = (f env h).bind fun s h => (lo env h).bind fun l h => (hi env h).bind fun u h => .give (gCut s l u h) h := id rfl
@[simp] theorem v_cutT {ds : List PyData} {lo hi : Option Int} : gCut (.val (.tuple ds)) lo hi h = some (.tuple (cutD ds lo hi)) := id rfl
@[simp] theorem v_cutL {ds : List PyData} {lo hi : Option Int} : gCut (.val (.list ds)) lo hi h = some (.list (cutD ds lo hi)) := id rfl
/-! ### statements -/
def Fl.seq (r : Fl) (q : Sv) : Fl := match r with
  | .next e h => q e h
  | r => r
@[simp] theorem v_seq : sSeq p q env h = (p env h).seq q := by unfold sSeq Fl.seq; cases p env h <;> rfl
@[simp] theorem v_seqN : (Fl.next e h).seq q = q e h := id rfl
@[simp] theorem v_seqR : (Fl.ret s h).seq q = .ret s h := id rfl
@[simp] theorem v_nil : sNil env h = .next env h := id rfl
@[simp] theorem v_exp : sExp f env h = (f env h).fl env fun _ h => .next env h := id rfl
@[simp] theorem v_ret : sRet f env h = (f env h).fl env fun s h => .ret s h := id rfl
@[simp] theorem v_sif : sIf c p q env h = (c env h).fl env fun b h => if b = true then p env h else q env h := id rfl
@[simp] theorem v_set {i : Nat} : sSet i f env h = (f env h).fl env fun s h => .next (env.set i (some s)) h := id rfl
def asg? (tg : Tg) (s : Sl) (env : En) (h : Hs) : Fl := match s with
  | .val d => match tg.put d env with
    | some e => .next e h
    | none => .bad
  | _ => .bad
@[simp] theorem v_asg {tg : Tg} : sAsg f tg env h = (f env h).fl env fun s h => asg? tg s env h := by unfold sAsg; congr
theorem v_asg1 {tg : Tg} (w : tg.put x env = some e) : asg? tg (.val x) env h = .next e h := by unfold asg?; dsimp only; rw [w]
@[simp] theorem v_asg2 {ts : List Tg} {ds : List PyData} : asg? (.tp ts) (.val (.tuple ds)) env h = match Tg.puts ts ds env with
    | some e => .next e h
    | none => .bad := by unfold asg?; simp only [Tg.put]
@[simp] theorem v_putN {i : Nat} : Tg.put (.nm i) x env = some (env.set i (some (.val x))) := by simp only [Tg.put]
@[simp] theorem v_putT {ts : List Tg} {ds : List PyData} : Tg.put (.tp ts) (.tuple ds) env = Tg.puts ts ds env := by simp only [Tg.put]
@[simp] theorem v_putsN : Tg.puts [] [] env = some env := by simp only [Tg.puts]
@[simp] theorem v_putsC {i : Nat} {ts : List Tg} {ds : List PyData} : Tg.puts (.nm i :: ts) (x :: ds) env = Tg.puts ts ds (env.set i (some (.val x))) := by
  rw [Tg.puts]
  simp only [Tg.put]
def par? (i j : Nat) (ss : List Sl) (env : En) (h : Hs) : Fl := match ss with
  | [s, t] => .next ((env.set i (some s)).set j (some t)) h
  | _ => .bad
@[simp] theorem v_par1 {i j : Nat} : par? i j [s, t] env h = .next ((env.set i (some s)).set j (some t)) h := id rfl
@[simp] theorem v_par {i j : Nat} : sPar i j a env h = (a env h).fl env fun ss h => par? i j ss env h := by unfold sPar; congr
/-! ### loops, lists of one's own, calls -/
def seq? (s : Sl) (h : Hs) : Rz (List PyData) := match s with
  | .val (.list ds) => .ok ds h
  | .val (.tuple ds) => .ok ds h
  | _ => .bad
@[simp] theorem v_seqL {ds : List PyData} : seq? (.val (.list ds)) h = .ok ds h := id rfl
@[simp] theorem v_seqT {ds : List PyData} : seq? (.val (.tuple ds)) h = .ok ds h := id rfl
@[simp] theorem v_src : srcSeq f env h = (f env h).bind fun s h => seq? s h := by unfold srcSeq; congr
def rng? (ss : List Sl) (h : Hs) : Rz (List PyData) := match ss with
  | [.val (.int j)] => if rngOk j then .ok (upTo 0 j.toNat) h else .bad
  | _ => .bad
@[simp] theorem v_rng : srcRng1 a env h = (a env h).bind fun ss h => rng? ss h := by unfold srcRng1; congr
theorem v_rng1 {j : Int} (h1 : -4611686018427387904 ≤ j) (h2 : j < 4611686018427387904) : rng? [.val (.int j)] h = .ok (upTo 0 j.toNat) h := by
  show (if rngOk j then _ else _) = _
  unfold rngOk
  rw [if_pos (decide_eq_true ⟨h1, h2⟩)]
@[simp] theorem v_for {src : En → Hs → Rz (List PyData)} {tg : Tg} : sFor src tg p env h = (src env h).fl env fun ds h => loopF tg p h.length ds env h := id rfl
@[simp] theorem v_comp {src : En → Hs → Rz (List PyData)} {tg : Tg} {vs : List Nat} : eComp src tg vs c f env h = (src env h).bind fun ds h => (compL tg c f (wipeE env vs) ds [] h).bind fun out h => .ok (.val (.list out)) h := id rfl
@[simp] theorem v_compN {src : En → Hs → Rz (List PyData)} {tg : Tg} {vs : List Nat} : eCompN src tg vs c f env h = (src env h).bind fun ds h => (compL tg c f (wipeE env vs) ds [] h).bind fun out h => .ok (.loc h.length) (h ++ [.lst out]) := id rfl
@[simp] theorem v_wipe0 : wipeE env [] = env := id rfl
@[simp] theorem v_wipe {i : Nat} {vs : List Nat} : wipeE env (i :: vs) = (wipeE env vs).set i none := id rfl
/-- a comprehension that takes each thing -/
theorem comp_map {α : Type} {tg : Tg} {E : α → En} {dd : α → PyData} {w : α → PyData} (hp : ∀ z, tg.put (dd z) env = some (E z)) (hc : ∀ z, c (E z) h = .ok true h) :
    ∀ (xs : List α) (acc : List PyData), (∀ z ∈ xs, f (E z) h = .ok (.val (w z)) h) → acc.length + xs.length ≤ 16777216 → compL tg c f env (xs.map dd) acc h = .ok (acc ++ xs.map w) h
  | [], acc, _, _ => by simp [compL]
  | z :: xs, acc, hf, hl => by
    rw [List.map_cons]
    unfold compL
    rw [hp z]
    dsimp only
    rw [hc z]
    dsimp only
    rw [hf z List.mem_cons_self]
    dsimp only
    have hl' : acc.length + xs.length + 1 ≤ 16777216 := hl
    rw [if_pos (by omega), comp_map hp hc xs (acc ++ [w z]) (fun y m => hf y (List.mem_cons_of_mem _ m)) (by rw [List.length_append, List.length_singleton]; omega)]
    simp
@[simp] theorem v_call {m : Fm} {io : List Bool} {fr : Bool} : eCall m io fr a env h = (a env h).bind fun ss h => callF m io fr ss h := id rfl
/-- a call that is handed data alone -/
theorem call_d {m : Fm} {fr : Bool} {io : List Bool} {ss : List Sl} {ds : List PyData} {z : PyData} (hv : vals? ss = some ds) (hi : io = ss.map fun _ => false) (e : m ds [] = .ok z []) : callF m io fr ss h = .ok (.val z) h := by
  have w : ∀ (ss : List Sl) (ds : List PyData), vals? ss = some ds → splitA (ss.map fun _ => false) ss h = some (ds, [], [], []) := by
    intro ss
    induction ss with
    | nil => intro ds q; cases q; rfl
    | cons s r ih =>
      intro ds q
      cases s with
      | loc n => cases q
      | inn n i => cases q
      | exn y => cases q
      | val d =>
        have q' : (vals? r).map (d :: ·) = some ds := q
        cases q2 : vals? r with
        | none => rw [q2] at q'; cases q'
        | some rs =>
          rw [q2] at q'
          cases q'
          simp only [List.map_cons, splitA, ih rs q2, dat0]
  subst hi
  unfold callF
  rw [w ss ds hv]
  dsimp only
  rw [if_pos ⟨rfl, Or.inl rfl⟩, e]
  dsimp only
  rw [if_pos (Or.inl rfl)]
  rfl
@[simp] theorem call1 {m : Fm} {fr : Bool} {x1 : PyData} {z : PyData} (e : m [x1] [] = .ok z []) : callF m [false] fr [.val x1] h = .ok (.val z) h := call_d rfl rfl e
@[simp] theorem call2 {m : Fm} {fr : Bool} {x1 x2 : PyData} {z : PyData} (e : m [x1, x2] [] = .ok z []) : callF m [false, false] fr [.val x1, .val x2] h = .ok (.val z) h := call_d rfl rfl e
@[simp] theorem call3 {m : Fm} {fr : Bool} {x1 x2 x3 : PyData} {z : PyData} (e : m [x1, x2, x3] [] = .ok z []) : callF m [false, false, false] fr [.val x1, .val x2, .val x3] h = .ok (.val z) h := call_d rfl rfl e
@[simp] theorem call4 {m : Fm} {fr : Bool} {x1 x2 x3 x4 : PyData} {z : PyData} (e : m [x1, x2, x3, x4] [] = .ok z []) : callF m [false, false, false, false] fr [.val x1, .val x2, .val x3, .val x4] h = .ok (.val z) h := call_d rfl rfl e
def runD (fr : Bool) (k : Nat) (r : Fl) : Rz PyData := match r with
  | .next _ h => .ok .none (h.take k)
  | .ret s h => outD fr k s h
  | .err x _ h => .err x (h.take k)
  | _ => .bad
@[simp] theorem v_run {fr : Bool} {io : List Bool} {nl : Nat} {ds : List PyData} {os : Hs} : runFn fr io nl p ds os = runD fr os.length (p (mkEnv io ds 0 ++ List.replicate nl none) os) := by
  unfold runFn runD; rfl
@[simp] theorem v_runN {fr : Bool} {k : Nat} : runD fr k (.next e h) = .ok .none (h.take k) := id rfl
@[simp] theorem v_runR {fr : Bool} {k : Nat} : runD fr k (.ret s h) = outD fr k s h := id rfl
@[simp] theorem v_outV {k : Nat} : outD false k (.val x) h = .ok x (h.take k) := by unfold outD; simp
@[simp] theorem v_mkN {ds : List PyData} {k : Nat} : mkEnv [] ds k = [] := id rfl
@[simp] theorem v_mkF {io : List Bool} {ds : List PyData} {k : Nat} : mkEnv (false :: io) (x :: ds) k = some (.val x) :: mkEnv io ds k := id rfl
@[simp] theorem v_mkT {io : List Bool} {ds : List PyData} {k : Nat} : mkEnv (true :: io) ds k = some (.loc k) :: mkEnv io ds (k + 1) := by cases ds <;> rfl
theorem callF_eq {m : Fm} {io : List Bool} {fr : Bool} {ss : List Sl} {ds : List PyData} {ns : List Nat} {os os' : Hs} {vw : List Nat} {z : PyData} (e : splitA io ss h = some (ds, ns, os, vw)) (ha : apartN ns vw = true) (hv : vw = [] ∨ fr = true)
    (em : m ds os = .ok z os') (ho : vw = [] ∨ os'.all obNoL = true) : callF m io fr ss h = .ok (.val z) (putObs ns os' h) := by
  unfold callF
  rw [e]
  dsimp only
  rw [if_pos ⟨ha, hv⟩, em]
  dsimp only
  rw [if_pos ho]
theorem callN_eq {m : Fm} {io : List Bool} {ss : List Sl} {ds ls : List PyData} {ns : List Nat} {os os' : Hs} {vw : List Nat} (e : splitA io ss h = some (ds, ns, os, vw)) (ha : apartN ns vw = true)
    (em : m ds os = .ok (.list ls) os') (ho : os'.all obNoL = true) : callN m io ss h = .ok (.loc h.length) (putObs ns os' h ++ [.lst ls]) := by
  unfold callN
  rw [e]
  dsimp only
  rw [if_pos ha, em]
  dsimp only
  rw [if_pos ho]
@[simp] theorem v_callN {m : Fm} {io : List Bool} : eCallN m io a env h = (a env h).bind fun ss h => callN m io ss h := id rfl
@[simp] theorem v_cutN {n : Nat} : cutE n [] = [] := id rfl
@[simp] theorem v_cut0 {n : Nat} {r : En} : cutE n (none :: r) = none :: cutE n r := id rfl
@[simp] theorem v_cutV {n : Nat} {r : En} : cutE n (some (.val x) :: r) = some (.val x) :: cutE n r := id rfl
@[simp] theorem v_cutI {n k i : Nat} {r : En} : cutE n (some (.inn k i) :: r) = (if k < n then some (.inn k i) else none) :: cutE n r := id rfl
@[simp] theorem v_cutO {n k : Nat} {r : En} : cutE n (some (.loc k) :: r) = (if k < n then some (.loc k) else none) :: cutE n r := id rfl
end
end FL

namespace FL
open PySem PySem.Spec PyProof.Rows L2
/-! ### raise X('..') -/
def sRaise (x : Str) : Sv := fun env h => .err ⟨x, []⟩ env h
/-- what is asked of a class of refusals -/
structure ExCls (K : PySem.W.Frag) (mg : Str → Option Value) (x : Str) (C : Addr) : Prop where
  g : mg x = some (.ref C)
  q : PySem.W.excIn K C [.type "ValueError", .type "Exception", .type "BaseException", .type "object"] "ValueError.__new__" = true
  kp : PySem.W.keepIn K (.ref C) = true
  sub : PySem.W.subIn K (.ref C) (.type "BaseException") = some true
  ty : PySem.W.typeIn K (.ref C) = some (.type "type")
section
variable {X : Cx} {C : Fc} {Wx : WX}
theorem fs_raise {x m : Str} {c : Addr} {j : Nat} {p p2 pos pos2 : Pos} (hc : X.calm = true) (tk : Takes X Wx) (e : ExCls X.K X.mg x c) (hg : Gl X x) (hdb : (x == ("__debug__" : Str)) = false := by decide) :
    FS X C Wx (.Raise (some (.Call (.Name x p) [.Constant (.str m) j p2] [] pos2)) none pos) (sRaise x) :=
  PS.imp (ps_raise hc tk (pmk_own PySem.F.excBase_ValueError e.q e.g e.kp (raises_own e.sub e.ty) hg hdb)) fun D σ H ⟨ρ, env, h, S, E, P⟩ =>
    P ρ σ H (.ref c) none (Stp.refl _ _) S E ⟨e.g, .inl ⟨rfl, rfl⟩⟩
end
@[simp] theorem v_raise {x : Str} {env : En} {h : Hs} : sRaise x env h = .err ⟨x, []⟩ env h := id rfl
@[simp] theorem v_seqE {x : Exn} {e : En} {h : Hs} {q : Sv} : (Fl.err x e h).seq q = .err x e h := id rfl
@[simp] theorem v_runE {fr : Bool} {k : Nat} {x : Exn} {e : En} {h : Hs} : runD fr k (.err x e h) = .err x (h.take k) := id rfl
/-! ### frames within a def's run -/
section
variable {K : PySem.W.Frag} {C : Fc} {ρ ρ2 : Fps} {h h2 : Hs} {H H2 : Hp}
/-- a run within a frame of its own, seen from the frame about it -/
theorem SimH.seen {C2 : Fc} (S2 : SimH K C2 ρ2 h2 H2) (e0 : C2.H0 = H) (e1 : C2.W = ρ) (e2 : C2.Bar = C.Bar) : Ex C ρ H ρ2 H2 := by
  refine ⟨⟨fun b o e n => ?_, fun b m => ?_⟩, fun n fp e => ⟨fp, S2.pre n fp (by rw [e1]; exact e), pfx_rfl⟩⟩
  · exact S2.frK b o (by rw [e0]; exact e) (by rw [e1]; exact fun z => n (.inl z))
  · rcases m with m | m
    · rcases S2.own b m with z | z
      · rw [e1] at z; exact .inl (.inl z)
      · rw [e0] at z; exact .inr z
    · exact .inl (.inr m)
theorem SimH.cong {C2 : Fc} (S : SimH K C ρ h H) (e0 : C2.H0 = C.H0) (e1 : C2.W = C.W) (e2 : C2.Bar = C.Bar) (e3 : C2.T = C.T) : SimH K C2 ρ h H := by
  obtain ⟨H0, W, B, T, x⟩ := C
  obtain ⟨H0', W', B', T', x'⟩ := C2
  dsimp only at e0 e1 e2 e3
  subst e0 e1 e2 e3
  exact ⟨S.len, S.nd, S.trk, S.obj, S.frK, S.own, S.bar, S.wtr, S.pre, S.tab⟩
end
/-! ### a lambda without parameters, called in the def that got it -/
section
variable {X : Cx} {pins : List (Addr × Obj)} {σ : L2.St} {H : Hp} {s : Shared}
theorem lam_act {CZ : CXT} {EZ : XK} {NZ : List Str} {qZ : Str} {sZ : Scope} {g f c' : Addr} {cdZ pm ctv : Value} {params : Arguments} {body : Expr} {scope : Scope} {k i : Nat} {a : Str} {pn : List (Addr × Obj)} {xe : Value → Shared → Prop} {W : WX} {tb : XK → TE} {p1 p2 : Pos}
    (I : Inv X pins σ H s) (L : LamX.LamS X.env.scope scope) (hf : s.heap.get? f = some (PySem.W.kla_obj "<lambda>" (X.env.qual ++ "<lambda>") params body scope (cloFrom X.env.cells scope.names []) pm c' ctv)) (hfn : H f = none) (hfr : f ∉ frs X.stack)
    (hbind : bindArgs (PySem.W.kla_fn "<lambda>" (X.env.qual ++ "<lambda>") params body scope (cloFrom X.env.cells scope.names []) pm (.ref c') ctv) ⟨[], []⟩ = pure [])
    (tk : Takes ((cxOf CZ X.prog X.w X.K X.mg X.base NZ qZ sZ g cdZ X.A X.stack s H EZ).tr pn xe) W) (hr : Room (k + 1) (X.A.deeper (envOfC qZ sZ s.heap.objs.size g cdZ)))
    (hbody : ∀ (E : XK) (A : Around) (outer : List Env) (s : Shared) (H : Hp), A.guards = X.A.guards → Room k (A.deeper (LamX.lamEnv X scope s.heap.objs.size f c')) → PE (LamX.lamCx X A outer s H E scope f c') body (tb E))
    (hN : NZ[i]? = some a) (hv : Vis sZ a) (hd : (a == ("__debug__" : Str)) = false := by decide) (hcd : (a == ("__classdict__" : Str)) = false := by decide) :
    PE ((cxOf CZ X.prog X.w X.K X.mg X.base NZ qZ sZ g cdZ X.A X.stack s H EZ).tr pn xe) (.Call (.Name a p1) [] [] p2) fun τ G Q => τ[i]? = some (some (.ref f)) ∧ G c' = some (LamX.CodeO c' (X.env.qual ++ "<lambda>")) ∧ tb (fun cls d G' => W cls d τ G') σ G Q := by
  constructor
  rintro pz s0 τ G Q J ⟨at_, co, rd_⟩
  refine wpAny_Call_Name_kw (thn ((pe_var (pos := p1) (i := i) hN hv hd hcd).run pz s0 τ G (fun v G1 => v = .ref f ∧ G1 = G) J ⟨_, at_, rfl, rfl⟩) ?_)
  rintro u s1 ⟨v, G1, J1, rv, rfl, rfl⟩
  cases (show u = Value.ref f from rv)
  have here : s1.heap.get? f = some (PySem.W.kla_obj "<lambda>" (X.env.qual ++ "<lambda>") params body scope (cloFrom X.env.cells scope.names []) pm c' ctv) := J1.base.keep f _ hf hfn hfr (fun z => nomatch z)
  have rc : codeAny (model X.prog X.w) (X.A.deeper (envOfC qZ sZ s.heap.objs.size g cdZ)) (.call (.ref f) ⟨[], []⟩) (CR (L2.CX X.prog X.w) (envOfC qZ sZ s.heap.objs.size g cdZ :: X.stack) X.prog X.w G1 s1 Q fun cls d G' => W cls d τ G') s1 := by
    obtain ⟨⟨oc, us, t, hoc, hdc, hvc⟩, _, _⟩ := J1.hok c' _ co
    refine PySem.W.kla_callFunE hr.depth here rfl L.co L.gen rfl ⟨c', oc, us, t, rfl, hoc, hdc, hvc⟩ ?_
    rw [hbind]
    refine wpAny_pure (wpAny_newFunctionEnv (fun y hy => (L.own y hy).2) (fun y hy => nomatch hy) ?_ L.kind)
    intro h1 hns hsb
    refine ⟨J1.nolimit.fresh _ hsb, ?_⟩
    have up : ∀ b o, s1.heap.get? b = some o → h1.get? b = some o := fun b o e => hsb.extBut b o (Nat.ne_of_lt (Heap.lt_size e)) (Heap.get?_push_of_some _ e)
    have K1 := LamX.lam_start2 (A := X.A.deeper (envOfC qZ sZ s.heap.objs.size g cdZ)) (outer := envOfC qZ sZ s.heap.objs.size g cdZ :: X.stack) (E := fun cls d G' => W cls d τ G') (f := f) (c' := c') (tk := s1.toks + ([] : List (Str × Value)).length) I L J1.env0 hr.hd (show Un (frs X.stack) [] H G1 s.heap s1.heap from J1.base) hns up
    refine PySem.W.kla_codeExpr (wpAny_mono ((hbody _ (X.A.deeper (envOfC qZ sZ s.heap.objs.size g cdZ)) _ s1 G1 rfl (hr.deeper _)).run [] _ σ G1 Q K1 rd_) ?_ fun _ _ z => z)
    rintro v s' ⟨v', G', J', rv, q⟩
    exact ⟨v', G', J'.os, J'.bare, J'.base, J'.hok, rv, q⟩
  refine PySem.W.callWith_F0 ⟨_, _, _, _, here⟩ (wpAny_call (codeAny_mono rc ?_))
  rintro (er | fl) s' hq
  · exact tk _ s' (XE.of_call J1 (fun _ _ _ z => z) hq)
  · cases fl with
    | ret u => exact J1.after hq
    | _ => exact False.elim hq
end
end FL

namespace FL
open PySem PySem.Spec PyProof.Rows L2
/-! ### enumerate(t), t a tuple -/
set_option maxHeartbeats 1000000 in
theorem new_enum {v : Value} {o : Obj} {G : Heap → Prop} (B : Begins v o G) : Meets (Builtin.«enumerate.__new__» ⟨[.type "enumerate", v], []⟩) fun _ R s =>
    G s.heap ∧ R (.ok (.ret (.ref (s.heap.push o).objs.size))) { s with heap := (s.heap.push o).push { cls := .type "enumerate", data := .fields #[.none, .bool false, .ref s.heap.objs.size, rawInt 0, .none, .none] } } :=
  .of_wp fun prog w A R s h => by
    obtain ⟨hp, g, d, tk, os⟩ := s
    obtain ⟨h1, h⟩ := h
    have su := sub_enumerate
    have it : ∀ {A' : Around} {E : Value → Shared → Prop} {Q : Value → Shared → Prop}, Q (.ref hp.objs.size) ⟨hp.push o, g, d, tk, os⟩ → wpAny (model prog w) A' (pyIter v) Q E ⟨hp, g, d, tk, os⟩ :=
      fun q => B.iter _ _ _ _ _ _ h1 q
    wp_walk using it
    refine wpAny_stack_any fun st => wpAny_pure ?_
    split
    · rename_i c _ _ _ _ _
      cases (c == Value.type "enumerate") <;> (wp_walk using it; exact ⟨_, rfl, h⟩)
    · wp_walk using it
      exact ⟨_, rfl, h⟩
theorem call_enum {prog : Program} {w : World} {A : Around} {E : Value → Shared → Prop} {s : Shared} {v : Value} {o : Obj} {G : Heap → Prop} {Q : Value → Shared → Prop} (B : Begins v o G) (h1 : G s.heap)
    (h : ∀ h', IsEnum h' (s.heap.objs.size + 1) s.heap.objs.size 0 .none → h'.get? s.heap.objs.size = some o → (∀ b o, s.heap.get? b = some o → h'.get? b = some o) → Q (.ref (s.heap.objs.size + 1)) { s with heap := h' }) :
    wpAny (model prog w) A (call (.type "enumerate") [v]) Q E s := by
  have z : (s.heap.push o).objs.size = s.heap.objs.size + 1 := Heap.size_push ..
  refine callType_new F.called_enumerate (by decide) (F.typeCall_enumerate_1 _) (F.newCall_enumerate_1 _) (fun obj => F.args_object_init_2 obj _) F.entry_enumerate_new (new_enum B) ⟨h1, ?_⟩
  show _ ∧ _
  rw [z]
  have he := Heap.get?_push_size (s.heap.push o) (o := { cls := .type "enumerate", data := .fields #[.none, .bool false, .ref s.heap.objs.size, rawInt 0, .none, .none] }) rfl
  rw [z] at he
  exact ⟨⟨_, he, rfl⟩, h _ he (Heap.get?_push_of_some _ (Heap.get?_push_size _ B.free)) fun b o x => Heap.get?_push_of_some _ (Heap.get?_push_of_some _ x)⟩
/-- the tuple at a, each item in a new pair -/
def ItE (K : PySem.W.Frag) (a : Addr) : It :=
  ⟨fun i H => ∃ (xs : List V) (x : V), SqT K H a xs ∧ xs[i]? = some x, fun i H v H' => ∃ T x, v = .ref T ∧ H T = none ∧ H' = upd H T (.tup [.int (i : Nat), x]) ∧ ∀ xs, SqT K H a xs → xs[i]? = some x, fun i H => ∃ xs : List V, SqT K H a xs ∧ xs.length ≤ i⟩
theorem turn_enT {P : Program} {w : World} {K : PySem.W.Frag} {elts : List Expr} {kk : Nat} {tpos : Pos} (a e it : Addr) :
    Turn P w K (.Tuple elts kk tpos) (ItE K a) [e, it] e fun i h => (∃ old, IsEnum h e it ((i : Nat) : Int) old) ∧ h.IsTupleIter it a i ∧ e ≠ it ∧ e ≠ a ∧ a ≠ it where
  mem := by simp
  obj := by
    rintro i h ⟨⟨old, he⟩, ⟨o, ho, hc, hd⟩, _⟩ b hb
    rcases (by simpa using hb : b = e ∨ b = it) with rfl | rfl
    · exact ⟨_, he, fun v q => nomatch q⟩
    · exact ⟨o, ho, fun v q => by rw [hd] at q; cases q⟩
  keep := by
    rintro i h h' ⟨⟨old, he⟩, hi, r⟩ k
    exact ⟨⟨old, k e (by simp) _ he⟩, hi.at fun o q => k it (by simp) o q, r⟩
  item := by
    rintro X rfl rfl rfl hc i pins s σ H E I hf ⟨⟨old, he⟩, hit, n1, n2, n3⟩ ⟨xs, x, hq, hx⟩
    obtain ⟨its, rv, p, hz⟩ := I.tuple hq
    obtain ⟨u, hu, ru⟩ := rv.get hx
    have el : e < s.heap.objs.size := Heap.lt_size he
    have il : it < s.heap.objs.size := by obtain ⟨_, q, _⟩ := hit; exact Heap.lt_size q
    have lt : i < its.toArray.size := by
      rw [List.size_toArray]
      exact (List.getElem?_eq_some_iff.mp hu).1
    refine wpAny_pyNext_enum_itemC (Draws.tuple (A := X.A.in1) (I.ok.hd hc) it a n3 its.toArray) he ⟨hit, p⟩ lt n1 (by simp [n1, n2]) ?_
    intro y h' tk hy ho hst hT hsz hk
    have ey : y = u := by
      have : its[i]? = some y := by simpa using hy
      rw [hu] at this
      exact (Option.some.inj this).symm
    subst ey
    refine ⟨_, rfl, wpAny_letOwnedTupleGo_enum (s := { s with heap := h', toks := tk + 1 }) ho fun h2 he2 sb => ?_⟩
    have at2 : h2.get? s.heap.objs.size = some { cls := .type "tuple", data := .seq #[.int i tk, y] } := (sb.2 _ (Nat.ne_of_gt el)).trans hT
    have ok2 : ObjOk X.prog X.w (upd H s.heap.objs.size (.tup [.int (i : Nat), x])) h2 s.heap.objs.size (.tup [.int (i : Nat), x]) :=
      ⟨by show 2 ≤ sizeLine; decide, [.int i tk, y], .cons ⟨_, rfl⟩ (.cons ru .nil), ⟨_, at2, rfl, _, rfl⟩⟩
    have I2 : Inv X pins σ (upd H s.heap.objs.size (.tup [.int (i : Nat), x])) { s with heap := h2, toks := tk + 1 } := I.turnedNew (ch := [e, it]) (fun b ob hb q => by
      have b1 : b ≠ e := fun z => hb (by simp [z])
      have b2 : b ≠ it := fun z => hb (by simp [z])
      exact (sb.2 b b1).trans (hk b ob b1 b2 q)) hf (Nat.le_refl _) ok2
    refine ⟨.ref s.heap.objs.size, _, I2, rfl, ⟨_, x, rfl, I.fresh, rfl, fun ys hys => ?_⟩, ⟨⟨y, ?_⟩, hst.1.at fun o q => (sb.2 it (Ne.symm n1)).trans q, n1, n2, n3⟩, fun b hb => ?_⟩
    · rw [I.tuple_inj hys hq]; exact hx
    · have e1 : ((i + 1 : Nat) : Int) = (i : Int) + 1 := by omega
      rw [e1]; exact he2
    · have lt2 : b < s.heap.objs.size := by
        rcases (by simpa using hb : b = e ∨ b = it) with rfl | rfl
        · exact el
        · exact il
      rw [upd_ne (Nat.ne_of_lt lt2)]
      exact (hf b hb).1
  done := by
    rintro X rfl rfl rfl hc i pins s σ H E I hf ⟨⟨old, he⟩, hit, n1, n2, n3⟩ ⟨xs, hq, hx⟩
    obtain ⟨its, rv, p, hz⟩ := I.tuple hq
    have no : its.toArray[i]? = none := by
      have := rv.length
      simp
      omega
    have D : Draws X.prog X.w X.A.in1 it [it, a] i (fun _ _ => True) (fun j h => j = i ∧ h.IsTupleIter it a i ∧ h.IsTuple a its.toArray) := {
      live := fun _ _ st => let ⟨o, ho, _⟩ := st.2.1; ⟨o, ho⟩
      frame := fun _ _ _ st hk => ⟨st.1, st.2.1.at fun o e => hk it (by simp) o e, st.2.2.at fun o e => hk a (by simp) o e⟩
      item := fun j s Q E hj st _ => absurd st.1 (Nat.ne_of_lt hj)
      done := fun s Q E st hE => wpAny_nextOf_tuple_end (I.ok.hd hc) st.2.1 st.2.2 no hE }
    obtain ⟨f0, f1, f2, f3, f4, f5⟩ := hf it (by simp)
    exact wpAny_pyNext_enum_endD D he ⟨rfl, hit, p⟩ fun h' eb => ⟨rfl, I.turned (t' := s.toks) (fun b o hb q => eb b o hb q) f0 f1 f3 f4 f5⟩
  self := by
    rintro A i s Q E ⟨⟨_, he⟩, _⟩ h
    exact wpAny_pyIter_enum he h
theorem boot_enum : bootBuiltins "enumerate" = some (.type "enumerate") := by decide +kernel
def iEnT (K : PySem.W.Frag) (ta : TA) : TI := fun σ H R => ta σ H fun vs H1 => ∃ a xs, vs = [.ref a] ∧ SqT K H1 a xs ∧ R (ItE K a) H1
theorem pi_enT {X : Cx} {e : Expr} {ta : TA} {p pos tpos : Pos} {elts : List Expr} {kk : Nat} (hg : Gl X "enumerate") (hm : X.mg "enumerate" = none) (ha : PA X [e] ta) (hs : starEach [e] X.env = [(false, eval e X.env)] := by rfl) :
    PI X (.Tuple elts kk tpos) (.Call (.Name "enumerate" p) [e] [] pos) (iEnT X.K ta) := by
  constructor
  intro pins s σ H R I h
  refine Call_ (ld_blt I hg hm boot_enum (PyProof.Rows.callWith_type1 (thn (ha.run pos pins s σ H _ I h) ?_) hs rfl))
  rintro us s1 ⟨vs, H1, I1, r1, a, xs, rfl, hq, q⟩
  cases r1 with
  | cons r rr =>
    cases rr
    cases r
    obtain ⟨its, rv, pt, hz⟩ := I1.tuple hq
    refine call_enum (begins_tuple a its.toArray) pt fun h' he ho hk => wpAny_pyIter_enum he ?_
    have I2 : Inv X pins σ H1 { s1 with heap := h' } := I1.kept (t' := s1.toks) hk
    have al : a < s1.heap.objs.size := by obtain ⟨_, z, _⟩ := pt; exact Heap.lt_size z
    refine ⟨s1.heap.objs.size + 1, [s1.heap.objs.size + 1, s1.heap.objs.size], _, _, H1, rfl, I2, turn_enT a (s1.heap.objs.size + 1) s1.heap.objs.size, ⟨⟨.none, he⟩, ⟨_, ho, rfl, rfl⟩, Nat.succ_ne_self _, fun z : s1.heap.objs.size + 1 = a => absurd al (by rw [← z]; exact Nat.not_lt.mpr (Nat.le_succ _)), fun z : a = s1.heap.objs.size => absurd al (by rw [z]; exact Nat.lt_irrefl _)⟩, fun b hb => ?_, q⟩
    have hle : s1.heap.objs.size ≤ b := by
      rcases (by simpa using hb : b = s1.heap.objs.size + 1 ∨ b = s1.heap.objs.size) with rfl | rfl <;> omega
    exact I1.fpOk hle (I1.hok.fresh hle)
/-! ### enumerate as a source -/
def enumD (k : Nat) : List PyData → List PyData
  | [] => []
  | d :: ds => .tuple [.int k, d] :: enumD (k + 1) ds
theorem enumD_get : ∀ (ds : List PyData) (k i : Nat), (enumD k ds)[i]? = (ds[i]?).map fun d => .tuple [.int ((k + i : Nat) : Int), d]
  | [], k, i => by simp [enumD]
  | d :: ds, k, 0 => by simp [enumD]
  | d :: ds, k, i + 1 => by
    show (enumD (k + 1) ds)[i]? = _
    rw [enumD_get ds (k + 1) i, show k + 1 + i = k + (i + 1) by omega]
    simp
theorem enumD_len : ∀ (ds : List PyData) (k : Nat), (enumD k ds).length = ds.length
  | [], _ => rfl
  | d :: ds, k => congrArg (· + 1) (enumD_len ds (k + 1))
def srcEnum (f : Av) : En → Hs → Rz (List PyData) := fun env h => (f env h).bind fun ss h => match ss with
  | [.val (.tuple ds)] => .ok (enumD 0 ds) h
  | [.val (.list ds)] => .ok (enumD 0 ds) h
  | _ => .bad
theorem gvs_enT {K : PySem.W.Frag} {H : Hp} {M : Ms} {a : Addr} {xs : List V} {ds : List PyData} (q : QT K H M a xs) (r : RpAll K H M xs ds) : Gvs K (ItE K a) (enumD 0 ds) M H where
  go := fun M' H' i d s e => by
    rw [enumD_get] at e
    cases z : ds[i]? with
    | none => rw [z] at e; cases e
    | some d0 =>
      obtain ⟨v, ev, _⟩ := r.get z
      exact ⟨xs, v, (q.stp s).sq, ev⟩
  yld := fun M' H' i d x H'' s e y => by
    obtain ⟨T, v, rfl, hT, rfl, hv⟩ := y
    rw [enumD_get] at e
    cases z : ds[i]? with
    | none => rw [z] at e; cases e
    | some d0 =>
      rw [z] at e
      cases e
      obtain ⟨w, ew, rw_⟩ := r.get z
      have := hv xs (q.stp s).sq
      rw [ew] at this
      cases this
      refine .inr ⟨T, _, _, hT, rfl, rfl, rfl, .cons ?_ (.cons (rw_.stp s) .nil)⟩
      rw [Nat.zero_add]
      exact .int _
  stop := fun M' H' i s hl => ⟨xs, (q.stp s).sq, by rw [r.length, ← enumD_len ds 0]; exact hl⟩
theorem gvs_enL {K : PySem.W.Frag} {H : Hp} {M : Ms} {a : Addr} {xs : List V} {ds : List PyData} (q : QL K H M a xs) (r : RpAll K H M xs ds) : Gvs K (Ite K a) (enumD 0 ds) M H where
  go := fun M' H' i d s e => by
    rw [enumD_get] at e
    cases z : ds[i]? with
    | none => rw [z] at e; cases e
    | some d0 =>
      obtain ⟨v, ev, _⟩ := r.get z
      exact ⟨xs, v, (q.stp s).sq, ev⟩
  yld := fun M' H' i d x H'' s e y => by
    obtain ⟨T, v, rfl, hT, rfl, hv⟩ := y
    rw [enumD_get] at e
    cases z : ds[i]? with
    | none => rw [z] at e; cases e
    | some d0 =>
      rw [z] at e
      cases e
      obtain ⟨w, ew, rw_⟩ := r.get z
      have := hv xs (q.stp s).sq
      rw [ew] at this
      cases this
      refine .inr ⟨T, _, _, hT, rfl, rfl, rfl, .cons ?_ (.cons (rw_.stp s) .nil)⟩
      rw [Nat.zero_add]
      exact .int _
  stop := fun M' H' i s hl => ⟨xs, (q.stp s).sq, by rw [r.length, ← enumD_len ds 0]; exact hl⟩
section
variable {X : Cx} {C : Fc} {Wx : WX} {e : Expr} {f : Av} {p pos tpos : Pos} {elts : List Expr} {kk : Nat}
theorem fi_enum (hg : Gl X "enumerate") (hm : X.mg "enumerate" = none) (ha : FA X C Wx [e] f) (hs : starEach [e] X.env = [(false, eval e X.env)] := by rfl) :
    FI X C Wx (.Tuple elts kk tpos) (.Call (.Name "enumerate" p) [e] [] pos) (srcEnum f) := by
  refine PI.two (pi_enT hg hm ha hs) (pi_enum hg hm ha hs) fun σ H R ⟨ρ, env, h, S, E, P⟩ => ?_
  have P' : Po X.K X.mg C Wx σ ρ H (relI X.K C) ((f env h).bind fun ss h => match ss with
    | [.val (.tuple ds)] => (.ok (enumD 0 ds) h : Rz (List PyData))
    | [.val (.list ds)] => .ok (enumD 0 ds) h
    | _ => .bad) R := P
  cases q : f env h with
  | bad => rw [q] at P'; exact P'.elim
  | err y h1 => rw [q] at P'; exact .inl ⟨ρ, env, h, S, E, by rw [q]; exact P'⟩
  | ok ss h1 =>
    rw [q, v_bind] at P'
    split at P'
    · rename_i ds
      refine .inl ⟨ρ, env, h, S, E, ?_⟩
      rw [q]
      intro ρ1 vs H1 x1 S1 r1
      obtain ⟨v, rfl, rv⟩ := SlVs.one r1
      cases (show Rp X.K H1 (Mo C ρ1) v (.tuple ds) from rv) with
      | tup qq ra => exact ⟨_, _, rfl, qq.sq, P' ρ1 _ H1 x1 S1 (gvs_enT qq ra)⟩
    · rename_i ds
      refine .inr ⟨ρ, env, h, S, E, ?_⟩
      rw [q]
      intro ρ1 vs H1 x1 S1 r1
      obtain ⟨v, rfl, rv⟩ := SlVs.one r1
      cases (show Rp X.K H1 (Mo C ρ1) v (.list ds) from rv) with
      | lst qq ra => exact ⟨_, _, rfl, qq.sq, P' ρ1 _ H1 x1 S1 (gvs_enL qq ra)⟩
    · exact P'.elim
end
end FL

namespace FL
open PySem PySem.Spec PyProof.Rows L2
/-! ### x in s -/
section
variable {X : Cx} {C : Fc}
def gIn : G2 := fun s t h => match dat s h, items t h with
  | some d, some ds => if shp d && shp (.list ds) then some (.bool (ds.any fun z => PyData.eqv z d)) else none
  | _, _ => none
def gNotIn : G2 := fun s t h => match dat s h, items t h with
  | some d, some ds => if shp d && shp (.list ds) then some (.bool (!ds.any fun z => PyData.eqv z d)) else none
  | _, _ => none
/-- a list or a tuple, its items data -/
theorem items_dp {ρ : Fps} {H : Hp} {h : Hs} {v : V} {s : Sl} {ds : List PyData} (S : SimH X.K C ρ h H) (r : SlV X.K C ρ H v s) (e : items s h = some ds) (hs : shp (.list ds) = true) : Dp X.K H v (.list ds) ∨ Dp X.K H v (.tuple ds) := by
  have nd : PyData.hasDictAll ds = false := by simpa only [PyData.hasDict] using shp_nd hs
  obtain ⟨a, vs, rfl, sq | sq, ra⟩ := items_rel S r e
  · exact .inl (.lst sq (RpAll.dp _ _ nd ra))
  · exact .inr (.tup sq (RpAll.dp _ _ nd ra))
theorem shp_tl {ds : List PyData} (h : shp (.list ds) = true) : shp (.tuple ds) = true := by
  simpa [shp, SeqAt.shaped, PyData.canLay0, PyData.depth] using h
def rInB (K : PySem.W.Frag) (neg : Bool) : R2 := fun x y H Q => ∃ d ds, Dp K H x d ∧ (Dp K H y (.list ds) ∨ Dp K H y (.tuple ds)) ∧ shp d = true ∧ shp (.list ds) = true ∧ Q (.bl (if neg then !ds.any fun z => PyData.eqv z d else ds.any fun z => PyData.eqv z d)) H
theorem op_inB (hu : X.A.units + 65 < cLine) : OpR X (compareOp .In) (rInB X.K false) := by
  rintro pins s σ H x y v u Q I rx ry ⟨d, ds, hd, he, sd, se, q⟩
  obtain ⟨as, r1⟩ := Dp.reads I d x v hd rx
  rcases he with he | he
  · exact op_inD hu pins s σ H x y v u Q I rx ry ⟨d, ds, hd, he, sd, se, q⟩
  · obtain ⟨bs, r2⟩ := Dp.reads I (.tuple ds) y u he ry
    exact SeqAt.in_tuple_reads r2 r1 (SeqAt.canLay_of_shaped se) (SeqAt.canLay_of_shaped sd) (room_in_shaped sd hu) ⟨.bl _, H, I, rfl, q⟩
theorem op_notInB (hu : X.A.units + 65 < cLine) : OpR X (compareOp .NotIn) (rInB X.K true) := by
  rintro pins s σ H x y v u Q I rx ry ⟨d, ds, hd, he, sd, se, q⟩
  obtain ⟨as, r1⟩ := Dp.reads I d x v hd rx
  rcases he with he | he
  · exact op_notInD hu pins s σ H x y v u Q I rx ry ⟨d, ds, hd, he, sd, se, q⟩
  · obtain ⟨bs, r2⟩ := Dp.reads I (.tuple ds) y u he ry
    exact SeqAt.notIn_tuple_reads r2 r1 (SeqAt.canLay_of_shaped se) (SeqAt.canLay_of_shaped sd) (room_in_shaped sd hu) ⟨.bl _, H, I, rfl, q⟩
theorem o_in (hu : X.A.units + 65 < cLine) : OpR X (compareOp .In) (rd2 X.K C gIn) := OpR.imp (op_inB hu) fun x y H Q ⟨ρ, h, s, t, d, S, r1, r2, e, k⟩ => by
  unfold gIn at e
  split at e
  · rename_i a ds e1 e2
    split at e
    · rename_i c
      obtain ⟨c1, c2⟩ := Bool.and_eq_true_iff.mp c
      cases e
      exact ⟨a, ds, dat_rel S r1 e1 (shp_nd c1), items_dp S r2 e2 c2, c1, c2, k _ H (Ex.refl _ _ _) S (.bl _)⟩
    · cases e
  · cases e
theorem o_notin (hu : X.A.units + 65 < cLine) : OpR X (compareOp .NotIn) (rd2 X.K C gNotIn) := OpR.imp (op_notInB hu) fun x y H Q ⟨ρ, h, s, t, d, S, r1, r2, e, k⟩ => by
  unfold gNotIn at e
  split at e
  · rename_i a ds e1 e2
    split at e
    · rename_i c
      obtain ⟨c1, c2⟩ := Bool.and_eq_true_iff.mp c
      cases e
      exact ⟨a, ds, dat_rel S r1 e1 (shp_nd c1), items_dp S r2 e2 c2, c1, c2, k _ H (Ex.refl _ _ _) S (.bl _)⟩
    · cases e
  · cases e
end
/-! ### x + y -/
def isT (s : Sl) : Option (List PyData) := match s with
  | .val (.tuple ds) => some ds
  | _ => none
def gAdd : G2 := fun s t h => match s, t with
  | .val (.int i), .val (.int j) => some (.int (i + j))
  | .val (.str a), .val (.str b) => if a.length + b.length ≤ 16777216 then some (.str (a ++ b)) else none
  | .val (.tuple a), .val (.tuple b) => if lineOk (a.length + b.length) then some (.tuple (a ++ b)) else none
  | s, t => match litems s h, litems t h with
    | some a, some b => if lineOk (a.length + b.length) then some (.list (a ++ b)) else none
    | _, _ => none
section
variable {X : Cx} {C : Fc}
/-- a list whose object is plain -/
def PlL (K : PySem.W.Frag) (H : Hp) (a : Addr) (xs : List V) : Prop := Rd H a (.lst xs) ∨ ∃ (its : Array Value) (n : Nat), K.lookup a = some { cls := .type "list", data := .seq its n } ∧ its.size ≤ sizeLine ∧ Vals xs its.toList
theorem PlL.get {pins : List (Addr × Obj)} {s : Shared} {σ : St} {H : Hp} {a : Addr} {xs : List V} (I : Inv X pins σ H s) (h : PlL X.K H a xs) : ∃ (its : List Value) (n : Nat), Vals xs its ∧ s.heap.get? a = some { cls := .type "list", data := .seq its.toArray n } := by
  rcases h with h | ⟨its, n, hk, hz, r⟩
  · obtain ⟨z, its, n, r, e⟩ := h.ok I.hok
    exact ⟨its, n, r, e⟩
  · exact ⟨its.toList, n, r, by simpa using I.kIn _ _ hk⟩
theorem litems_pl {ρ : Fps} {H : Hp} {h : Hs} {v : V} {s : Sl} {ds : List PyData} (S : SimH X.K C ρ h H) (r : SlV X.K C ρ H v s) (e : litems s h = some ds) : ∃ a vs, v = .ref a ∧ PlL X.K H a vs ∧ RpAll X.K H (Mo C ρ) vs ds := by
  unfold litems at e
  split at e
  · cases e
    cases (show Rp X.K H (Mo C ρ) v (.list ds) from r) with
    | lst q a => exact ⟨_, _, rfl, q.imp And.left id, a⟩
  · rename_i n
    obtain ⟨fp, a, e1, e2, rfl⟩ := r
    split at e
    · rename_i ds' e3
      cases e
      obtain ⟨_, vs, q, ra⟩ := S.lst e1 e2 e3
      exact ⟨_, vs, rfl, .inl (.inl q), ra⟩
    · cases e
  · rename_i n i
    obtain ⟨fp, a, e1, e2, rfl⟩ := r
    obtain ⟨vs, q, ra⟩ := S.inn e1 e2 e
    exact ⟨_, vs, rfl, .inl (.inl q), ra⟩
  · cases e
def rCatP (K : PySem.W.Frag) : R2 := fun x y H Q => ∃ a b xs ys, x = .ref a ∧ y = .ref b ∧ PlL K H a xs ∧ PlL K H b ys ∧ xs.length + ys.length ≤ sizeLine ∧ ∀ p, H p = none → Q (.ref p) (upd H p (.lst (xs ++ ys)))
theorem op_catP : OpR X (binaryOp .Add) (rCatP X.K) := by
  rintro pins s σ H x y v u Q I rx ry ⟨a, b, xs, ys, rfl, rfl, ha, hb, hz, q⟩
  cases rx
  cases ry
  obtain ⟨i1, n1, r1, e1⟩ := ha.get I
  obtain ⟨i2, n2, r2, e2⟩ := hb.get I
  have l1 := r1.length
  have l2 := r2.length
  refine PySem.P.add_list e1 e2 ?_ (by rw [List.size_toArray, List.size_toArray]; omega)
  rw [show i1.toArray ++ i2.toArray = (i1 ++ i2).toArray by simp]
  exact ⟨.ref _, _, I.lnew (t' := s.toks) (r1.append r2) (by rw [List.length_append]; omega), rfl, q _ I.fresh⟩
theorem o_add : OpR X (binaryOp .Add) (rd2 X.K C gAdd) := OpR.imp (((op_add.or op_add_str).or op_catA).or op_catP) fun x y H Q ⟨ρ, h, s, t, d, S, r1, r2, e, k⟩ => by
  unfold gAdd at e
  split at e
  · rename_i i j
    cases e
    cases (show Rp X.K H (Mo C ρ) x (.int i) from r1)
    cases (show Rp X.K H (Mo C ρ) y (.int j) from r2)
    exact .inl (.inl (.inl ⟨i, j, rfl, rfl, k _ H (Ex.refl _ _ _) S (.int _)⟩))
  · rename_i a b
    split at e
    · rename_i hl
      cases e
      cases (show Rp X.K H (Mo C ρ) x (.str a) from r1)
      cases (show Rp X.K H (Mo C ρ) y (.str b) from r2)
      exact .inl (.inl (.inr ⟨a, b, rfl, rfl, by rw [sizeLine_eq]; exact hl, k _ H (Ex.refl _ _ _) S (.str _)⟩))
    · cases e
  · rename_i a b
    split at e
    · rename_i hl
      cases e
      cases (show Rp X.K H (Mo C ρ) x (.tuple a) from r1) with
      | tup q1 a1 =>
        cases (show Rp X.K H (Mo C ρ) y (.tuple b) from r2) with
        | tup q2 a2 =>
          refine .inl (.inr ⟨_, _, _, _, rfl, rfl, q1.sq, q2.sq, by rw [a1.length, a2.length]; exact lineOk_le hl, fun z => ?_, fun z z2 => ?_, fun _ _ p hp => k _ _ (Ex.laid S hp) (S.laid hp) (Rp.newTup S hp (a1.append a2))⟩)
          · subst z
            cases a1
            exact k _ H (Ex.refl _ _ _) S (.tup q2 a2)
          · subst z2
            cases a2
            refine k _ H (Ex.refl _ _ _) S ?_
            rw [List.append_nil]
            exact .tup q1 a1
    · cases e
  · split at e
    · rename_i a b e1 e2
      split at e
      · rename_i hl
        cases e
        obtain ⟨p1, v1, rfl, q1, a1⟩ := litems_pl S r1 e1
        obtain ⟨p2, v2, rfl, q2, a2⟩ := litems_pl S r2 e2
        exact .inr ⟨_, _, _, _, rfl, rfl, q1, q2, by rw [a1.length, a2.length]; exact lineOk_le hl, fun p hp => k _ _ (Ex.laid S hp) (S.laid hp) (Rp.newLst S hp (a1.append a2))⟩
      · cases e
    · cases e
end
@[simp] theorem v_addI {i j : Int} {h : Hs} : gAdd (.val (.int i)) (.val (.int j)) h = some (.int (i + j)) := id rfl
theorem v_addT {a b : List PyData} {h : Hs} (hl : a.length + b.length ≤ 16777216) : gAdd (.val (.tuple a)) (.val (.tuple b)) h = some (.tuple (a ++ b)) := by
  show (if lineOk (a.length + b.length) then _ else _) = _
  unfold lineOk
  rw [if_pos (decide_eq_true hl)]
theorem v_addL {a b : List PyData} {h : Hs} (hl : a.length + b.length ≤ 16777216) : gAdd (.val (.list a)) (.val (.list b)) h = some (.list (a ++ b)) := by
  show (if lineOk (a.length + b.length) then _ else _) = _
  unfold lineOk
  rw [if_pos (decide_eq_true hl)]
end FL

namespace FL
open PySem PySem.Spec PyProof.Rows L2
/-! ### marks.count(True), marks.index(True) -/
def mCount : GM := fun s ss h => match (litems s h).bind bools?, ss with
  | some bs, [.val (.bool b)] => some (.int (bs.count b : Nat), h)
  | _, _ => none
def mIndex : GM := fun s ss h => match (litems s h).bind bools?, ss with
  | some bs, [.val (.bool b)] => if bs.contains b then some (.int (bs.idxOf b : Nat), h) else none
  | _, _ => none
def isB (b : Bool) (v : Value) : Bool := match v with
  | .bool a => a == b
  | _ => false
theorem vals_bl : ∀ {bs : List Bool} {us : List Value}, Vals (bs.map V.bl) us → us = bs.map Value.bool
  | [], _, .nil => rfl
  | b :: bs, _, .cons r t => by
    rw [List.map_cons, ← vals_bl t]
    cases (show _ = Value.bool b from r)
    rfl
theorem count_isB (b : Bool) : ∀ bs : List Bool, (bs.map Value.bool).countP (isB b) = bs.count b
  | [] => rfl
  | a :: bs => by
    rw [List.map_cons, List.countP_cons, List.count_cons, count_isB b bs]
    rfl
section
variable {X : Cx} {C : Fc}
theorem mt_countB : MtR X "list.count" fun x xs H Q => ∃ (p : Addr) (bs : List Bool) (b : Bool), x = .ref p ∧ xs = [.bl b] ∧ SqL X.K H p (bs.map V.bl) ∧ Q (.int (bs.count b : Nat)) H := by
  rintro pins s σ H x xs v us Q I rx rxs ⟨p, bs, b, rfl, rfl, hs, q⟩
  cases rx
  obtain ⟨u, rfl, ru⟩ := rxs.one
  cases (show u = Value.bool b from ru)
  obtain ⟨its, rv, ⟨⟨cls, dd, data, sl⟩, n, ho, hc, hdn, hd⟩, hlen⟩ := I.list hs
  simp only at hc hd
  subst hc hd
  have ei := vals_bl rv
  subst ei
  refine call_meets PySem.F.slot_list_count ⟨_, ho, rfl⟩ PySem.F.entry_list_count (PySem.F.args_list_count_2 _ _) (SeqAt.list_countAt p _ n dd sl (.bool b) (isB b)) ⟨ho, fun y hy => ?_, ?_⟩
  · obtain ⟨a, _, rfl⟩ := List.mem_map.mp (show y ∈ bs.map Value.bool by simpa using hy)
    exact SeqAt.EqAt.bool_bool a b
  · refine ⟨.int (bs.count b : Nat), H, I.tok _, ⟨s.toks, ?_⟩, q⟩
    show Value.int (((bs.map Value.bool).toArray.toList.countP (isB b) : Nat) : Int) s.toks = _
    rw [show (bs.map Value.bool).toArray.toList = bs.map Value.bool from rfl, count_isB]
theorem m_count : MtR X "list.count" (rdM X.K C mCount) := MtR.imp mt_countB fun x xs H Q ⟨ρ, h, s, ss, d, h', S, r1, r2, e, k⟩ => by
  unfold mCount at e
  split at e
  · rename_i bs b e1
    cases e
    obtain ⟨ds, e2, e3⟩ := Option.bind_eq_some_iff.mp e1
    obtain ⟨a, vs, rfl, sq, ra⟩ := litems_rel S r1 e2
    obtain ⟨y, rfl, ry⟩ := SlVs.one r2
    cases (show Rp X.K H (Mo C ρ) y (.bool b) from ry)
    have ev := bools_rel ra e3
    subst ev
    exact ⟨a, bs, b, rfl, rfl, sq, k _ H (Ex.refl _ _ _) S (.int _)⟩
  · cases e
theorem idx_first {b : Bool} : ∀ {bs : List Bool}, bs.contains b = true → bs[bs.idxOf b]? = some b ∧ ∀ m, m < bs.idxOf b → bs[m]? ≠ some b
  | [], h => by simp at h
  | a :: bs, h => by
    by_cases q : a = b
    · subst q
      simp [List.idxOf_cons]
    · have h2 : bs.contains b = true := by
        simp at h ⊢
        rcases h with h | h
        · exact absurd h.symm q
        · exact h
      obtain ⟨i1, i2⟩ := idx_first h2
      have e : (a :: bs).idxOf b = bs.idxOf b + 1 := by
        have hq : (a == b) = false := by simpa using q
        simp [List.idxOf_cons, hq]
      rw [e]
      refine ⟨by simpa using i1, fun m hm => ?_⟩
      cases m with
      | zero => simpa using q
      | succ m => simpa using i2 m (by omega)
theorem m_index : MtR X "list.index" (rdM X.K C mIndex) := MtR.imp mt_index fun x xs H Q ⟨ρ, h, s, ss, d, h', S, r1, r2, e, k⟩ => by
  unfold mIndex at e
  split at e
  · rename_i bs b e1
    split at e
    · rename_i hc
      cases e
      obtain ⟨ds, e2, e3⟩ := Option.bind_eq_some_iff.mp e1
      obtain ⟨a, vs, rfl, sq, ra⟩ := litems_rel S r1 e2
      obtain ⟨y, rfl, ry⟩ := SlVs.one r2
      cases (show Rp X.K H (Mo C ρ) y (.bool b) from ry)
      have ev := bools_rel ra e3
      subst ev
      obtain ⟨i1, i2⟩ := idx_first hc
      refine ⟨a, bs.map V.bl, .bl b, bs.idxOf b, .bl b, rfl, rfl, sq, rfl, by simp [flatV], by rw [List.getElem?_map, i1]; rfl, by simp [eqV], fun m z hm hz => ?_, k _ H (Ex.refl _ _ _) S (.int _)⟩
      rw [List.getElem?_map] at hz
      cases q : bs[m]? with
      | none => rw [q] at hz; cases hz
      | some c =>
        rw [q] at hz
        cases hz
        have := i2 m hm
        rw [q] at this
        show (c == b) = false
        simpa using fun z => this (by rw [z])
    · cases e
  · cases e
end
/-! ### isinstance(e, X), e the exception that is held -/
/-- which refusal is of which kind -/
def subN (a b : Str) : Bool :=
  a == b || b == ("WayError" : Str) || b == ("ValueError" : Str) || (b == ("NoThing" : Str) && !(([("NoAsk" : Str), "Nothing", "TooMany", "NotNow"].contains a))) || (b == ("NotNow" : Str) && ([("NoAsk" : Str), "Nothing", "TooMany"].contains a))
def eIsE (i : Nat) (y : Str) : Ev := fun env h => match env[i]? with
  | some (some (.exn x)) => .ok (.val (.bool (subN x.cls y))) h
  | _ => .bad
/-- the exception that the context holds -/
structure Held (X : Cx) (C : Fc) (p : Addr × Obj) (x : Exn) (D : Addr) : Prop where
  pin : p ∈ X.pn
  z : Zc (.ref D) none p.2
  f : ∃ vs, p.2.data = .fields vs
  exc : C.exc = some (p.1, x)
  cls : ExcC X.K D
/-- what isinstance says of the class at D and the name y -/
def KitN (K : PySem.W.Frag) (mg : Str → Option Value) (D : Addr) (a y : Str) : Prop :=
  (∃ c : Addr, mg y = some (.ref c) ∧ PySem.W.kitOne K (.ref D) (.ref c) = some (subN a y)) ∨ (mg y = none ∧ y ≠ "__name__" ∧ ∃ n : String, bootBuiltins y = some (.type n) ∧ PySem.W.kitOne K (.ref D) (.type n) = some (subN a y))
section
variable {X : Cx} {C : Fc} {Wx : WX}
theorem call_held {p : Addr × Obj} {D : Addr} (hp : p ∈ X.pn) (E : ExcC X.K D) (hz : Zc (.ref D) none p.2) (hf : ∃ vs, p.2.data = .fields vs) : CallR X (.builtin "isinstance") (rIsE X.K D p.1) := by
  rintro pins s σ H xs us Q I r ⟨c, cv, b, rfl, hcv, e, q⟩
  cases r with
  | cons rx rr =>
    cases rr with
    | cons rt rr =>
      cases rr
      cases rx
      have ec := hcv _ rt
      subst ec
      have hget := (I.pin p (List.mem_append_left _ hp)).1
      obtain ⟨vs, hv⟩ := hf
      have J : PySem.W.InstAt s.heap p.1 p.2 D none := by
        obtain ⟨a, ⟨oc, od, oda, osl⟩⟩ := p
        obtain ⟨h1, h2⟩ := hz
        dsimp only at h1 h2 hv
        subst h1 h2 hv
        exact ⟨hget, rfl, rfl, trivial⟩
      exact PySem.W.kia_one (PySem.W.handS_kitx_exc E.hg E.hk E.hs E.hd E.ha E.hn E.ht E.hm) I.kIn J e (fun z => nomatch z) fun tk => ⟨.bl b, H, I.kept (t' := tk) fun _ _ z => z, rfl, q⟩
theorem fe_isE {p : Addr × Obj} {x : Exn} {D : Addr} {i : Nat} {n y : Str} {p1 p2 p3 pos : Pos} (hh : Held X C p x D) (hk : KitN X.K X.mg D x.cls y) (hg : Gl X "isinstance") (hm : X.mg "isinstance" = none) (hg2 : Gl X y)
    (hN : X.N[i]? = some n := by rfl) (hv : Vis X.env.scope n := by first | exact Or.inl rfl | exact Or.inr (Or.inl rfl) | exact Or.inr (Or.inr rfl)) (hd : (n == ("__debug__" : Str)) = false := by decide) (hcd : (n == ("__classdict__" : Str)) = false := by decide)
    (hd2 : (y == ("__debug__" : Str)) = false := by decide)
    (hs1 : starEach (.Name n p1 :: [.Name y p2]) X.env = (false, eval (.Name n p1) X.env) :: starEach [.Name y p2] X.env := by rfl) (hs2 : starEach (Expr.Name y p2 :: []) X.env = (false, eval (.Name y p2) X.env) :: starEach [] X.env := by rfl)
    (hpl : (backTo pos (starEach [Expr.Name y p2] X.env)).any (·.1) = false := by rfl) : FE X C Wx (.Call (.Name "isinstance" p3) [.Name n p1, .Name y p2] [] pos) (eIsE i y) := by
  have key : ∀ (c : V) (cv : Value), (∀ u, RelV c u → u = cv) → PySem.W.kitOne X.K (.ref D) cv = some (subN x.cls y) → PE X (.Name y p2) (tC c) → FE X C Wx (.Call (.Name "isinstance" p3) [.Name n p1, .Name y p2] [] pos) (eIsE i y) := by
    intro c cv hcv e hc
    have hA : PA X [.Name n p1, .Name y p2] (tCons (tVar i) (tCons (tC c) tNil)) := pa_cons (pe_var hN hv hd hcd) (pa_cons hc pa_nil hs2) hs1
    refine PE.imp (pe_callB (call_held hh.pin hh.cls hh.z hh.f) hg hm (by decide +kernel) hA (by decide) (by decide) hs1 hpl) ?_
    rintro σ H Q ⟨ρ, env, h, S, E, P⟩
    unfold eIsE at P
    split at P
    · rename_i z ez
      obtain ⟨v, e1, a, e2, rfl⟩ := E.at_ i _ ez
      rw [hh.exc] at e2
      cases e2
      exact ⟨_, e1, c, cv, _, rfl, hcv, e, P ρ _ H (Ex.refl _ _ _) S (.bl _)⟩
    · exact P.elim
  rcases hk with ⟨c, hc, e⟩ | ⟨hn, hnn, n', hb, e⟩
  · exact key (.ref c) (.ref c) (fun u r => r) e (pe_glob hg2 hc rfl hd2)
  · exact key (.ty n') (.type n') (fun u r => r) e (pe_bltn (v := .ty n') hg2 hn hb rfl hnn hd2)
end
end FL

theorem L2H.RoomH.units {k : Nat} {A : PySem.Around} (r : L2H.RoomH k A) : A.units + 64 < PySem.cLine := by have := r.un; omega
namespace FL
open PySem PySem.Spec PyProof.Rows L2
/-! ### a def that is handed the exception that is held -/
/-- what is known of an exception's class -/
structure KxOk (K : PySem.W.Frag) (mg : Str → Option Value) (ys : List Str) (x : Exn) (D : Addr) : Prop where
  g : mg x.cls = some (.ref D)
  fs : x.fs = []
  cls : ExcC K D
  kit : ∀ y ∈ ys, KitN K mg D x.cls y
def runW (nl : Nat) (fb : Sv) (x : Exn) : Option PyData := match fb (some (.exn x) :: List.replicate nl none) [] with
  | .ret (.val d) _ => some d
  | _ => none
structure FnW (P : Program) (w : World) (K : PySem.W.Frag) (mg : Str → Option Value) (base : Heap) (T : List (Addr × Str)) (k : Nat) (f : Addr) (fd : FuncData) (a : Str) (ys : List Str) (m : Exn → Option PyData) : Prop where
  run : ∀ (A : Around) (outer : List Env) (s : Shared) (H : Hp) (p : Addr × Obj) (x : Exn) (D : Addr) (d : PyData) (Q : VK) (Bar : Ms), (∀ b, Bar b → ∃ o, H b = some o) → A.guards = some [] → L2H.RoomH k A → L2H.PinOk outer H s p → Zc (.ref D) none p.2 → (∃ vs, p.2.data = .fields vs) → KxOk K mg ys x D →
    Env0 P w K mg base A outer s H → LamX.Tabs T H → BindsTo s fd ⟨[.ref p.1], []⟩ [(a, .ref p.1)] → m x = some d → (∀ v H', FrmK T [] H H' → Rp K H' Bar v d → Q v H') →
    codeAny (model P w) A (.call (.ref f) ⟨[.ref p.1], []⟩) (CR (L2.CX P w) outer P w H s Q fun _ _ _ => False) s
theorem fnW {T : List (Addr × Str)} {P : Program} {w : World} {K : PySem.W.Frag} {mg : Str → Option Value} {base : Heap} {x0 qual a : Str} {st : Stmt} {f : Addr} {fd : FuncData} {N ys : List Str} {k : Nat} {fb : Sv} (F : Fun K x0 qual st f fd) (S : FnScope N [a] (defScope st))
    (hb : ∀ (cdv : Value) (A : Around) (outer : List Env) (s : Shared) (H : Hp) (p : Addr × Obj) (x : Exn) (D : Addr) (C : Fc), C.T = T → A.guards = some [] → L2H.RoomH k (A.deeper (envOfC qual (defScope st) s.heap.objs.size f cdv)) →
      Held (L2H.cxH (L2.CX P w) P w K mg base N qual (defScope st) f cdv A outer s H (fun _ _ _ => False) p) C p x D → KxOk K mg ys x D → FSs (L2H.cxH (L2.CX P w) P w K mg base N qual (defScope st) f cdv A outer s H (fun _ _ _ => False) p) C W0 (defBody st) fb) :
    FnW P w K mg base T (k + 1) f fd a ys (runW (N.length - 1) fb) := by
  obtain ⟨oc, od, kV, doc, pm, an, cdv, ct, osl, rfl, lk, hcd⟩ := F.ex
  constructor
  intro A outer s H p x D d Q Bar hB hg hr hpin hz hf hx e0 tb hbn em hq
  have up : ∀ b o, base.get? b = some o → s.heap.get? b = some o := fun b o e => (e0.bs b o e).1
  have kin : K.In s.heap := e0.mod.kin.keeps up
  have kinds : ∀ y ∈ [a].zip [Value.ref p.1], (defScope st).names.lookup y.1 = some .local ∨ ((defScope st).names.lookup y.1 = some .cell ∧ ((cellsFrom (s.heap.objs.size + 1) (defScope st).names []).lookup y.1).isSome = true) := by
    rintro ⟨n, v⟩ hy
    exact (S.par n (List.of_mem_zip hy).1).imp id fun q => ⟨q, PySem.W.cellsFrom_some _ _ _ (.inl q)⟩
  refine codeAny_call_function hr.depth (kin _ _ lk) rfl S.co S.gen rfl (PySem.W.codeRec_of kin hcd) (hbn _ _ _ _ (wpAny_newFunctionEnv_cells S.kind kinds ?_))
  intro env he s1 x1
  subst he
  have I := L2H.inv_startH (CX := L2.CX P w) (f := f) (cd := cdv) (E := fun _ _ _ => False) S hpin e0 (vs := [.ref p.1]) (us := [.ref p.1]) rfl (.cons rfl .nil) x1
  have hl : 1 ≤ N.length := by
    have := congrArg List.length S.pre
    rw [List.length_take] at this
    simp at this
    omega
  have rdg : rdS K mg ⟨H, [], Bar, T, some (p.1, x)⟩ W0 fb { nx := fun _ H' => Q .non H', rt := Q } (start N [.ref p.1]) H := by
    refine ⟨[], some (.exn x) :: List.replicate (N.length - 1) none, [], ⟨rfl, by simp, fun a m => (nomatch m), fun n fp o e _ => by simp at e, fun b o e _ => ⟨o, e, .inl rfl⟩, fun a m => (nomatch m), fun b z => ⟨by simp, hB b z⟩, fun a m => (nomatch m), fun n fp e => by simp at e, tb⟩, ⟨?_, fun i s' e => ?_⟩, ?_⟩
    · unfold L2.start
      simp
    · cases i with
      | zero =>
        have e' : some (some (Sl.exn x)) = some (some s') := e
        cases e'
        exact ⟨.ref p.1, rfl, p.1, rfl, rfl⟩
      | succ i =>
        rw [List.getElem?_cons_succ, List.getElem?_replicate] at e
        split at e <;> cases e
    · unfold runW at em
      split at em
      · rename_i d0 h0 q0
        cases em
        rw [q0]
        intro ρ' v H' st' S' r
        exact hq v H' ⟨fun b o e n => S'.frK b o e (fun z => nomatch z), S'.tab⟩ (Rp.fewer (fun _ z => .inr z) r)
      · cases em
  refine ⟨(e0.mod.nolimit.keeps up).keeps x1.toInCall.keep, codeAny_func (wpAny_mono ((hb cdv A outer s H p x D _ rfl hg (hr.deeper _) ⟨List.mem_singleton.mpr rfl, hz, hf, rfl, hx.cls⟩ hx).run [] s1 (start N [.ref p.1]) H _ I rdg) ?_ fun e s' hs => hs)⟩
  intro fl s' hs
  match fl, hs with
  | .ret u, hs => obtain ⟨v, _, H', J, rv, q⟩ := hs; exact ⟨v, H', J.os, J.bare, J.base, J.hok, rv, q⟩
  | .next, hs => obtain ⟨_, H', J, q⟩ := hs; exact ⟨V.non, H', J.os, J.bare, J.base, J.hok, rfl, q⟩
  | .brk, hs => obtain ⟨_, _, _, q⟩ := hs; exact False.elim q
  | .cont, hs => obtain ⟨_, _, _, q⟩ := hs; exact False.elim q
end FL

namespace FL
open PySem PySem.Spec PyProof.Rows L2
section
variable {X : Cx} {pins : List (Addr × Obj)} {σ : L2.St} {H : Hp} {s : Shared}
/-- a lambda is made: what becomes of what is tracked -/
theorem lam_made {T : List (Addr × Str)} {c P : Addr} {params : Arguments} {body : Expr} {scope : Scope} {pos : Pos} {E Q : Value → Shared → Prop} (I : Inv X pins σ H s) (TB : LamX.TabB X.base X.mg c P) (hcode : X.env.code = .ref c)
    (hm : (P, X.env.qual ++ "<lambda>") ∈ T) (hu : ∀ p ∈ T, p.1 = P → p.2 = X.env.qual ++ "<lambda>") (hT : LamX.Tabs T H) (hdef : defaultsOf params X.env = ([], [])) (hfree : ∀ y ∈ scope.names, y.2 = .free → ∃ c, X.env.cells.lookup y.1 = some c)
    (h : ∀ (f c' : Addr) (pm ctv : Value) (H1 : Hp) (s' : Shared), Inv X pins σ H1 s' → (H1 = H ∨ ∃ ps ps' : Array Value, H P = some (.tbl ps) ∧ H c' = none ∧ H1 = upd (upd H P (.tbl ps')) c' (LamX.CodeO c' (X.env.qual ++ "<lambda>"))) → LamX.Tabs T H1 →
      s'.heap.get? f = some (PySem.W.kla_obj "<lambda>" (X.env.qual ++ "<lambda>") params body scope (cloFrom X.env.cells scope.names []) pm c' ctv) → H1 f = none → f ∉ frs X.stack → H1 c' = some (LamX.CodeO c' (X.env.qual ++ "<lambda>")) → Q (.ref f) s') :
    wpAny (model X.prog X.w) X.A (eval (.Lambda params body scope pos) X.env) Q E s := by
  obtain ⟨ps, hP, tri, known⟩ := hT _ hm
  have atP : s.heap.get? P = some { cls := .none, data := .fields ps } := I.hok P _ hP
  have bP : s.heap.BuiltinsAt X.mg P := TB.bm.keeps I.bk
  have apart : ∀ f, s.heap.objs.size ≤ f → f ∉ frs X.stack := fun f hf z => by
    rcases List.mem_cons.mp (I.stkSub _ z) with e | e
    · exact absurd I.lt (by rw [← e]; exact Nat.not_lt.mpr hf)
    · exact I.nofs hf e
  refine PySem.W.kla_eval hdef ?_
  cases q : codeAmong pos ps.toList with
  | some cv =>
    obtain ⟨c', rfl, co⟩ := known pos cv q
    refine PySem.W.kla_makeFunctionHit (mg := X.mg) (c := c) (P := P) (ps := ps) (closure_ok hfree) I.ok.glob (I.mod.glob.keeps I.bk) hcode (TB.code.keeps I.bk) atP tri q bP fun ctv h' tk hx hsz => ?_
    refine h h'.objs.size c' ((X.mg "__name__").getD .none) ctv H _ ?_ (.inl rfl) hT (Heap.get?_push_size _ rfl) (I.hok.fresh hsz) (apart _ hsz) co
    exact I.kept fun b o e => Heap.get?_push_of_some _ (hx b o e)
  | none =>
    refine PySem.W.kla_makeFunction (mg := X.mg) (c := c) (P := P) (ps := ps) (closure_ok hfree) I.ok.glob (I.mod.glob.keeps I.bk) hcode (TB.code.keeps I.bk) atP tri q TB.gP bP fun c' ctv h' tk hx hge hlt hrec htb => ?_
    obtain ⟨c2, oc, vs, t, ec, hoc, hd, hv⟩ := hrec
    cases ec
    have nC : H c' = none := I.hok.fresh hge
    have sz : s.heap.objs.size ≤ h'.objs.size := Nat.le_trans hge (Nat.le_of_lt hlt)
    have I1 := LamX.inv_table (t' := tk) (more := #[rawInt pos.line, rawInt pos.col, .ref c']) (h' := h'.push (PySem.W.kla_obj "<lambda>" (X.env.qual ++ "<lambda>") params body scope (cloFrom X.env.cells scope.names []) ((X.mg "__name__").getD .none) c' ctv)) I hP
      (fun b o hb e => Heap.get?_push_of_some _ (hx b o hb e)) (Heap.get?_push_of_some _ htb) hge ⟨oc, vs, t, Heap.get?_push_of_some _ hoc, hd, hv⟩
    have nPc : P ≠ c' := ne_of_none hP nC
    have el : (ps ++ #[rawInt pos.line, rawInt pos.col, .ref c']).toList = ps.toList ++ [rawInt pos.line, rawInt pos.col, .ref c'] := by simp
    have old : ∀ b q, H b = some (LamX.CodeO b q) → upd (upd H P (.tbl (ps ++ #[rawInt pos.line, rawInt pos.col, .ref c']))) c' (LamX.CodeO c' (X.env.qual ++ "<lambda>")) b = some (LamX.CodeO b q) := fun b q e => by
      rw [upd_ne (ne_of_none e nC), upd_ne (fun z => by rw [z, hP] at e; exact LamX.codeO_ne ps (Option.some.inj e).symm)]
      exact e
    refine h h'.objs.size c' ((X.mg "__name__").getD .none) ctv _ _ I1 (.inr ⟨ps, _, hP, nC, rfl⟩) (fun p hp => ?_) (Heap.get?_push_size _ rfl) ?_ (apart _ sz) upd_same
    · by_cases hb : p.1 = P
      · rw [hu p hp hb, hb]
        refine ⟨_, by rw [upd_ne nPc, upd_same], by rw [el]; exact PySem.TriplesOk_snoc _ _ _ _ tri, fun p' cv hcv => ?_⟩
        rw [el] at hcv
        rcases LamX.among_app _ tri hcv with z | z
        · obtain ⟨c1, rfl, e2⟩ := known p' cv z
          exact ⟨c1, rfl, old c1 _ e2⟩
        · exact ⟨c', z, upd_same⟩
      · obtain ⟨ps', a1, a2, a3⟩ := hT p hp
        refine ⟨ps', by rw [upd_ne (ne_of_none a1 nC), upd_ne hb]; exact a1, a2, fun p' cv hcv => ?_⟩
        obtain ⟨c1, rfl, e2⟩ := a3 p' cv hcv
        exact ⟨c1, rfl, old c1 _ e2⟩
    · rw [upd_ne (Nat.ne_of_gt hlt), upd_ne (Nat.ne_of_gt (Nat.lt_of_lt_of_le (Heap.lt_size atP) sz))]
      exact I.hok.fresh sz
end
end FL

namespace FL
open PySem PySem.Spec PyProof.Rows L2
/-! ### said(lambda: e) -/
def eSaid (tup : Bool) (R : List Str) (mw : Exn → Option PyData) (fe : Ev) : Ev := fun env h => match fe env h with
  | .ok (.val d) h' => .ok (.val (.tuple [.str "told", d])) h'
  | .err x h' => if R.contains x.cls && x.fs.isEmpty then (match mw x with
    | some d => .ok (.val (if tup then .tuple [d] else d)) h'
    | none => .bad) else .bad
  | _ => .bad
/-- a lambda was made -/
def Made (H : Hp) (P c' : Addr) (q : Str) (H1 : Hp) : Prop := H1 = H ∨ ∃ ps ps' : Array Value, H P = some (.tbl ps) ∧ H c' = none ∧ H1 = upd (upd H P (.tbl ps')) c' (LamX.CodeO c' q)
theorem Made.keep {H H1 : Hp} {P c' : Addr} {q : Str} (m : Made H P c' q H1) {b : Addr} {o : HO} (e : H b = some o) : ∃ o', H1 b = some o' ∧ Kp o o' := by
  rcases m with rfl | ⟨ps, ps', hP, hc, rfl⟩
  · exact ⟨o, e, .inl rfl⟩
  · have nc : b ≠ c' := ne_of_none e hc
    by_cases hb : b = P
    · subst hb
      rw [hP] at e
      cases e
      exact ⟨.tbl ps', by rw [upd_ne nc, upd_same], .inr ⟨ps, ps', rfl, rfl⟩⟩
    · exact ⟨o, by rw [upd_ne nc, upd_ne hb]; exact e, .inl rfl⟩
def KeepA (H H1 : Hp) : Prop := ∀ b o, H b = some o → ∃ o', H1 b = some o' ∧ Kp o o'
theorem KeepA.ex {C : Fc} {ρ : Fps} {H H1 : Hp} (m : KeepA H H1) : Ex C ρ H ρ H1 := ⟨⟨fun b o e _ => m b o e, fun _ z => .inl z⟩, fun _ fp e => ⟨fp, e, pfx_rfl⟩⟩
theorem KeepA.sim {K : PySem.W.Frag} {C : Fc} {ρ : Fps} {h : Hs} {H H1 : Hp} (m : KeepA H H1) (S : SimH K C ρ h H) (t : LamX.Tabs C.T H1) : SimH K C ρ h H1 where
  len := S.len
  nd := S.nd
  trk := fun a z => by
    obtain ⟨o, e⟩ := S.trk a z
    obtain ⟨o', e', _⟩ := m _ _ e
    exact ⟨o', e'⟩
  obj := fun n fp o e1 e2 => ObOk.stp (m.ex (C := C) (ρ := ρ)).stp (fun a z => by
    obtain ⟨u, eu, nu⟩ := (S.obj n fp o e1 e2).nte z
    obtain ⟨o', e', k⟩ := m _ _ eu
    rw [e', eu, k.nt nu.1]) (S.obj n fp o e1 e2)
  frK := fun b o e n => by
    obtain ⟨o1, e1, k1⟩ := S.frK b o e n
    obtain ⟨o2, e2, k2⟩ := m _ _ e1
    exact ⟨o2, e2, k1.trans k2⟩
  own := S.own
  bar := fun b z => by
    obtain ⟨n, o, e⟩ := S.bar b z
    obtain ⟨o', e', _⟩ := m _ _ e
    exact ⟨n, o', e'⟩
  wtr := fun a z => by
    obtain ⟨o, e⟩ := S.wtr a z
    obtain ⟨o', e', _⟩ := m _ _ e
    exact ⟨o', e'⟩
  pre := S.pre
  tab := t
theorem Made.ex {C : Fc} {ρ : Fps} {H H1 : Hp} {P c' : Addr} {q : Str} (m : Made H P c' q H1) : Ex C ρ H ρ H1 := ⟨⟨fun _ _ e _ => m.keep e, fun _ z => .inl z⟩, fun _ fp e => ⟨fp, e, pfx_rfl⟩⟩
theorem Made.sim {K : PySem.W.Frag} {C : Fc} {ρ : Fps} {h : Hs} {H H1 : Hp} {P c' : Addr} {q : Str} (m : Made H P c' q H1) (S : SimH K C ρ h H) (t : LamX.Tabs C.T H1) : SimH K C ρ h H1 := KeepA.sim (fun _ _ e => m.keep e) S t
/-- what is at a code object is no object of the def's own -/
theorem SimH.noExt {K : PySem.W.Frag} {C : Fc} {ρ : Fps} {h : Hs} {H : Hp} (S : SimH K C ρ h H) {b : Addr} {f} (e : H b = some (.ext f)) : b ∉ ρ.flatten := fun z => by
  obtain ⟨fp, h1, h2⟩ := List.mem_flatten.mp z
  obtain ⟨n, hn, en⟩ := List.getElem_of_mem h1
  have hl : n < h.length := by rw [← S.len]; exact hn
  obtain ⟨u, eu, nu⟩ := (S.obj n fp _ (by rw [← en]; exact List.getElem?_eq_getElem hn) (List.getElem?_eq_getElem hl)).nte h2
  rw [e] at eu
  cases eu
  exact nu.2 _ rfl
def exD : Exn := ⟨"", []⟩
/-- the call of what was handed over -/
def eAct (fe : Ev) (env : En) : Ev := fun e2 h => match e2[0]? with
  | some (some (Sl.exn _)) => (match fe env h with
    | .ok (.val d) h' => .ok (.val d) h'
    | .err x h' => .err x h'
    | _ => .bad)
  | _ => .bad
section
variable {X : Cx} {C : Fc} {Wx : WX}
theorem fe_act {pins : List (Addr × Obj)} {σ : L2.St} {H1 : Hp} {s1 : Shared} {ρ : Fps} {env : En} {h : Hs} {CZ : CXT} {EZ : XK} {NZ : List Str} {qZ : Str} {sZ : Scope} {g f c' : Addr} {cdZ pm ctv : Value} {params : Arguments} {body : Expr} {scope : Scope} {k : Nat} {a : Str} {pn : List (Addr × Obj)} {xe : Value → Shared → Prop} {W : WX} {p1 p2 : Pos} {fe : Ev}
    (S : SimH X.K C ρ h H1) (Ev_ : EnvOk X.K C ρ H1 env σ)
    (I : Inv X pins σ H1 s1) (L : LamX.LamS X.env.scope scope) (hf : s1.heap.get? f = some (PySem.W.kla_obj "<lambda>" (X.env.qual ++ "<lambda>") params body scope (cloFrom X.env.cells scope.names []) pm c' ctv)) (hfn : H1 f = none) (hfr : f ∉ frs X.stack)
    (hco : H1 c' = some (LamX.CodeO c' (X.env.qual ++ "<lambda>")))
    (hbind : bindArgs (PySem.W.kla_fn "<lambda>" (X.env.qual ++ "<lambda>") params body scope (cloFrom X.env.cells scope.names []) pm (.ref c') ctv) ⟨[], []⟩ = pure [])
    (tk : Takes ((cxOf CZ X.prog X.w X.K X.mg X.base NZ qZ sZ g cdZ X.A X.stack s1 H1 EZ).tr pn xe) W) (hr : Room (k + 1) (X.A.deeper (envOfC qZ sZ s1.heap.objs.size g cdZ)))
    (hbody : ∀ (C' : Fc) (_ : C'.T = C.T) (E : XK) (A : Around) (outer : List Env) (s : Shared) (H : Hp), A.guards = X.A.guards → Room k (A.deeper (LamX.lamEnv X scope s.heap.objs.size f c')) → FE (LamX.lamCx X A outer s H E scope f c') C' (Wq E) body fe)
    (hN : NZ[0]? = some a) (hv : Vis sZ a) (hd : (a == ("__debug__" : Str)) = false := by decide) (hcd : (a == ("__classdict__" : Str)) = false := by decide) :
    FE ((cxOf CZ X.prog X.w X.K X.mg X.base NZ qZ sZ g cdZ X.A X.stack s1 H1 EZ).tr pn xe) ⟨H1, ρ, C.Bar, C.T, some (f, exD)⟩ W (.Call (.Name a p1) [] [] p2) (eAct fe env) := by
  refine PE.imp (lam_act (i := 0) (tb := fun E σ G Q => ∃ C3 : Fc, C3.T = C.T ∧ rd X.K X.mg C3 (Wq E) (relE X.K C3) fe σ G Q) I L hf hfn hfr hbind tk hr (fun E A outer s H hg hr' => ⟨fun pz s' τ G Q J ⟨C3, e3, q⟩ => (hbody C3 e3 E A outer s H hg hr').run pz s' τ G Q J q⟩) hN hv hd hcd) ?_
  rintro τ G Q ⟨ρ2, e2, h2, S2, E2, P2⟩
  have P3 : Po X.K X.mg ⟨H1, ρ, C.Bar, C.T, some (f, exD)⟩ W τ ρ2 G (relE X.K ⟨H1, ρ, C.Bar, C.T, some (f, exD)⟩) (match e2[0]? with
    | some (some (Sl.exn _)) => (match fe env h2 with
      | .ok (.val d) h' => (.ok (.val d) h' : Rz Sl)
      | .err x h' => .err x h'
      | _ => .bad)
    | _ => .bad) Q := P2
  split at P3
  · rename_i y ey
    obtain ⟨v, ev, a', ea, rfl⟩ := E2.at_ 0 _ ey
    cases ea
    have x2 : Ex C ρ H1 ρ2 G := S2.seen (C := C) rfl rfl rfl
    refine ⟨ev, S2.fr hco (S.noExt hco) (fun _ z => nomatch z), ⟨H1, ρ, C.Bar, C.T, C.exc⟩, rfl, ρ2, env, h2, S2.cong rfl rfl rfl rfl, EnvOk.cong (C := C) rfl rfl (Ev_.ex x2), ?_⟩
    have xc : ∀ {ρ3 : Fps} {G3 : Hp}, Ex ⟨H1, ρ, C.Bar, C.T, C.exc⟩ ρ2 G ρ3 G3 → Ex ⟨H1, ρ, C.Bar, C.T, some (f, exD)⟩ ρ2 G ρ3 G3 := fun x => Ex.cong (C := ⟨H1, ρ, C.Bar, C.T, C.exc⟩) (C' := ⟨H1, ρ, C.Bar, C.T, some (f, exD)⟩) rfl x
    cases q : fe env h2 with
    | bad => rw [q] at P3; exact P3.elim
    | err x h' =>
      rw [q] at P3
      intro ρ3 G3 cls d x3 S3 xn
      exact P3 ρ3 G3 cls d (xc x3) (S3.cong rfl rfl rfl rfl) xn
    | ok s h' =>
      rw [q] at P3
      cases s with
      | val d =>
        intro ρ3 u G3 x3 S3 r3
        exact P3 ρ3 u G3 (xc x3) (S3.cong rfl rfl rfl rfl) r3
      | loc n => exact P3.elim
      | inn n i => exact P3.elim
      | exn x => exact P3.elim
  · exact P3.elim
/-- word(e), in the suite that holds e -/
theorem pe_word {Z : Cx} {T : List (Addr × Str)} {a fw : Addr} {oe : Obj} {pn : List (Addr × Obj)} {kw : Nat} {fdw : FuncData} {pw n x0 : Str} {ys : List Str} {mw : Exn → Option PyData} {i : Nat} {p p2 pos : Pos} {cls : Value} {dd : Option Addr}
    (hz : Zc cls dd oe) (hf : ∃ vs, oe.data = .fields vs) (FW : FnW Z.prog Z.w Z.K Z.mg Z.base T kw fw fdw pw ys mw) (hgd : Z.A.guards = some []) (hr : L2H.RoomH kw Z.A) (hb : Binds Z.K fdw [pw] []) (hg : Gl Z x0) (hm : Z.mg x0 = some (.ref fw)) (hk : PySem.W.keepIn Z.K (.ref fw) = true)
    (hN : Z.N[i]? = some n) (hv : Vis Z.env.scope n) (hd : (n == ("__debug__" : Str)) = false) (hcd : (n == ("__classdict__" : Str)) = false) (hdb : (x0 == ("__debug__" : Str)) = false)
    (he : starEach [.Name n p2] Z.env = (false, eval (.Name n p2) Z.env) :: starEach [] Z.env) (hpl : (backTo pos (starEach [] Z.env)).any (·.1) = false) :
    PE (Z.suite a ((a, oe) :: pn)) (.Call (.Name x0 p) [.Name n p2] [] pos) fun τ G Q => τ[i]? = some (some (.ref a)) ∧ LamX.Tabs T G ∧ ∃ (x : Exn) (D : Addr) (d : PyData) (Bar : Ms), cls = .ref D ∧ dd = none ∧ KxOk Z.K Z.mg ys x D ∧ mw x = some d ∧ (∀ b, Bar b → ∃ o, G b = some o) ∧ ∀ v G', FrmK T [] G G' → Rp Z.K G' Bar v d → Q v G' := by
  constructor
  rintro pins s τ G Q J ⟨hτ, tb, x, D, d, Bar, rfl, rfl, kx, em, hB, hq⟩
  refine wpAny_Call_Name_kw (ld_glob (X := Z.suite a ((a, oe) :: pn)) J hg hm ?_ hdb)
  have hA : PA (Z.suite a ((a, oe) :: pn)) [.Name n p2] (tCons (tVar i) tNil) := pa_cons (pe_var (X := Z.suite a ((a, oe) :: pn)) hN hv hd hcd) pa_nil he
  refine PySem.W.callWith_K (h₀ := Z.base) J.ok.mod.kin hk (thn (hA.run pos pins s τ G (fun vs G1 => vs = [.ref a] ∧ G1 = G) J ⟨_, hτ, rfl, rfl⟩) ?_) he hpl
  rintro us s1 ⟨vs, G1, J1, r, rfl, rfl⟩
  obtain ⟨u, rfl, ru⟩ := Vals.one r
  cases (show u = Value.ref a from ru)
  have P1 := J1.pin (a, oe) (List.mem_append_left _ List.mem_cons_self)
  have pin : L2H.PinOk Z.stack G1 s1 (a, oe) := ⟨P1.1, P1.2.1, fun z => (List.mem_cons.mp (J1.stkSub a z)).elim P1.2.2.1 P1.2.2.2.1, P1.2.2.2.2⟩
  have b := hb s1 [.ref a] J1.kIn rfl
  refine ⟨J1.kIn, wpAny_call (codeAny_mono (FW.run (Z.A.mark (some (.ref a))) Z.stack s1 G1 (a, oe) x D d Q Bar hB hgd ⟨hr.dp, hr.un⟩ pin hz hf kx J1.env0 tb b em hq) ?_)⟩
  rintro (er | fl) s' h'
  · obtain ⟨_, _, _, _, _, _, _, _, _, _, _, _, z⟩ := h'
    exact z.elim
  · cases fl with
    | ret u => exact J1.after h'
    | _ => exact False.elim h'
end
end FL

namespace FL
open PySem PySem.Spec PyProof.Rows L2
/-- the suite's answer: (word(e),) or word(e) -/
inductive RetW : Bool → Expr → Prop
  | tup {q1 q2 q3 q4 : Pos} {k} : RetW true (.Tuple [.Call (.Name "_law_word" q1) [.Name "_law_e" q2] [] q3] k q4)
  | one {q1 q2 q3 : Pos} : RetW false (.Call (.Name "_law_word" q1) [.Name "_law_e" q2] [] q3)
/-- what a def that makes lambdas must know -/
structure SaidOk (X : Cx) (T : List (Addr × Str)) (kw : Nat) (g fw : Addr) (stS : Stmt) (fdS fdw : FuncData) (pw : Str) (ys R : List Str) (mw : Exn → Option PyData) (tup : Bool) : Prop where
  fun_ : Fun X.K "_law_said" "_law_said" stS g fdS
  mg : X.mg "_law_said" = some (.ref g)
  word : FnW X.prog X.w X.K X.mg X.base T kw fw fdw pw ys mw
  mgW : X.mg "_law_word" = some (.ref fw)
  kpW : PySem.W.keepIn X.K (.ref fw) = true
  bW : Binds X.K fdw [pw] []
  bS : Binds X.K fdS ["_law_call"] []
  sc : FnScope ["_law_call", "_law_e"] ["_law_call"] (defScope stS)
  sv0 : Vis (defScope stS) "_law_call"
  sl1 : (defScope stS).names.lookup ("_law_e" : Str) = some .local
  gW : (defScope stS).names.lookup ("WayError" : Str) = some .globalImplicit
  gO : (defScope stS).names.lookup ("_law_word" : Str) = some .globalImplicit
  body : ∃ (j : Nat) (kt : _) (ret : Expr) (q1 q2 q3 q4 q5 q6 q7 q8 q9 : Pos), RetW tup ret ∧ defBody stS = [.Try [.Return (some (.Tuple [.Constant (.str "told") j q1, .Call (.Name "_law_call" q2) [] [] q3] kt q4)) q5] [.ExceptHandler (some (.Name "WayError" q6)) (some "_law_e") [.Return (some ret) q7] q8] [] [] q9]
  way : ∃ CW : Addr, X.mg "WayError" = some (.ref CW) ∧ ∀ x : Exn, R.contains x.cls = true → x.fs = [] → ∃ D, KxOk X.K X.mg ys x D ∧ PySem.W.exmOne X.K (.ref D) (.ref CW) = some true
/-- what the suite wants -/
def tsSaid (K : PySem.W.Frag) (mg : Str → Option Value) (T : List (Addr × Str)) (ys : List Str) (mw : Exn → Option PyData) (tup : Bool) : Addr → Value → Option Addr → TS := fun a cls dd D τ G =>
  τ[1]? = some (some (.ref a)) ∧ LamX.Tabs T G ∧ ∃ (x : Exn) (Dc : Addr) (d : PyData) (Bar : Ms), cls = .ref Dc ∧ dd = none ∧ KxOk K mg ys x Dc ∧ mw x = some d ∧ (∀ b, Bar b → ∃ o, G b = some o) ∧ ∀ v G', FrmK T [] G G' → Rp K G' Bar v (if tup then .tuple [d] else d) → D.rt v G'
section
variable {X : Cx} {C : Fc} {Wx : WX}
theorem fe_said {T : List (Addr × Str)} {c P g fw : Addr} {stS : Stmt} {fdS fdw : FuncData} {k kw : Nat} {pw : Str} {ys R : List Str} {mw : Exn → Option PyData} {tup : Bool} {params : Arguments} {body : Expr} {scope : Scope} {fe : Ev} {p lpos pos : Pos}
    (B : SaidOk X T kw g fw stS fdS fdw pw ys R mw tup) (hT : C.T = T) (hgd : X.A.guards = some []) (hr : Room (k + 2) X.A) (hkw : kw ≤ k + 1) (hg : Gl X "_law_said") (TB : LamX.TabB X.base X.mg c P) (hcode : X.env.code = .ref c)
    (hmT : (P, X.env.qual ++ "<lambda>") ∈ T) (hu : ∀ p ∈ T, p.1 = P → p.2 = X.env.qual ++ "<lambda>") (L : LamX.LamS X.env.scope scope) (hdef : defaultsOf params X.env = ([], []))
    (hbind : ∀ (q : Str) (cl : List (Str × Addr)) (pm cv ctv : Value), bindArgs (PySem.W.kla_fn "<lambda>" q params body scope cl pm cv ctv) ⟨[], []⟩ = pure [])
    (hbody : ∀ (f c' : Addr) (C' : Fc) (_ : C'.T = T) (E : XK) (A : Around) (outer : List Env) (s : Shared) (H : Hp), A.guards = some [] → Room k (A.deeper (LamX.lamEnv X scope s.heap.objs.size f c')) → FE (LamX.lamCx X A outer s H E scope f c') C' (Wq E) body fe) :
    FE X C Wx (.Call (.Name "_law_said" p) [.Lambda params body scope lpos] [] pos) (eSaid tup R mw fe) := by
  subst hT
  constructor
  rintro pins s σ H Q I ⟨ρ, env, h, S, E0, P0⟩
  obtain ⟨oc, od, kV, doc, pm, an, cdv, ct, osl, efd, lk, hcd⟩ := B.fun_.ex
  obtain ⟨j, kt, ret, q1, q2, q3, q4, q5, q6, q7, q8, q9, hret, ebody⟩ := B.body
  obtain ⟨CW, hCW, hX⟩ := B.way
  refine wpAny_Call_Name_kw (ld_glob I hg B.mg ?_ (by decide))
  refine PySem.W.callWith_K (h₀ := X.base) I.ok.mod.kin B.fun_.kp ?_ (by rfl) (by rfl)
  show wpAny _ _ (spliced ((false, eval (.Lambda params body scope lpos) X.env) :: backTo pos (starEach [] X.env))) _ _ s
  refine Calls.spliced_cons (lam_made I TB hcode hmT hu S.tab hdef (L.has I.ok) ?_)
  intro f c' pm' ctv H1 s1 I1 md T1 hf hfn hfr hco
  refine Calls.spliced_nil ⟨I1.kIn, ?_⟩
  have S1 : SimH X.K C ρ h H1 := Made.sim md S T1
  have x1 : Ex C ρ H ρ H1 := Made.ex md
  have E1 := E0.ex x1
  have S2 : SimH X.K ⟨H1, ρ, C.Bar, C.T, some (f, exD)⟩ ρ h H1 := S1.sub.cong rfl rfl rfl rfl
  have rc : codeAny (model X.prog X.w) X.A (.call (.ref g) ⟨[.ref f], []⟩) (CR (L2.CX X.prog X.w) X.stack X.prog X.w H1 s1 Q fun _ _ _ => False) s1 := by
    subst efd
    refine LamX.run_ofS (N := ["_law_call", "_law_e"]) (ps := ["_law_call"]) (us := [.ref f]) (vs := [.ref f]) (k := k + 1) lk hcd B.sc hr I1.env0 (B.bS s1 [.ref f] I1.kIn rfl) (.cons rfl .nil) rfl fun hr' => ?_
    refine ⟨fun D τ G => rdS X.K X.mg ⟨H1, ρ, C.Bar, C.T, some (f, exD)⟩ (wAs X.K (.ref CW) 1 (tsSaid X.K X.mg C.T ys mw tup) (fun _ _ _ _ => False) D) (sRet (eTup (aCons (eK (.str "told")) (aCons (eAct fe env) aNil)))) D τ G, ?_, ?_⟩
    · rw [ebody]
      refine pss_one (ps_try_as (i := 1) (c := .ref CW) (Wout := fun _ _ _ _ => False) (tb := fun W => rdS X.K X.mg ⟨H1, ρ, C.Bar, C.T, some (f, exD)⟩ W (sRet (eTup (aCons (eK (.str "told")) (aCons (eAct fe env) aNil))))) (ts := tsSaid X.K X.mg C.T ys mw tup)
        rfl rfl B.sc.nd rfl B.sl1 ⟨B.gW, by decide, .inl hCW⟩ LamX.takes0 (fun W pn xe tk _ => ?_) fun a oe cls dd pn hz hfi => ?_)
      · exact fss_one (fs_ret (fe_tup (fa_cons fe_str (fa_cons (fe_act S1 E1 I1 L hf hfn hfr hco (hbind _ _ _ _ _) tk hr' (fun C' e' E A outer s H hg' hr2 => hbody f c' C' e' E A outer s H (hg'.trans hgd) hr2) rfl B.sv0) fa_nil))))
      · have rw_ : L2H.RoomH kw (X.A.deeper (envOfC "_law_said" (defScope stS) s1.heap.objs.size g cdv)) := (L2H.roomH_of hr').mono hkw
        cases hret with
        | tup =>
          refine PSs.imp (pss_one (ps_ret (pe_tup (pa_cons (pe_word (Z := cxOf (L2.CX X.prog X.w) X.prog X.w X.K X.mg X.base ["_law_call", "_law_e"] "_law_said" (defScope stS) g cdv X.A X.stack s1 H1 fun _ _ _ => False) (i := 1) hz hfi B.word hgd rw_ B.bW B.gO B.mgW B.kpW rfl (.inl B.sl1) (by decide) (by decide) (by decide) rfl rfl) pa_nil)))) ?_
          rintro D τ G ⟨h1, tb, x, Dc, d, Bar, rfl, rfl, kx, em, hB, hq⟩
          refine ⟨h1, tb, x, Dc, d, Bar, rfl, rfl, kx, em, hB, fun v G' fk r => ⟨by show 1 ≤ sizeLine; decide, fun p0 hp0 => hq _ _ ⟨fun b o e n => ?_, ?_⟩ ?_⟩⟩
          · obtain ⟨o', e', kk⟩ := fk.1 b o e n
            exact ⟨o', by rw [upd_ne (ne_of_none e' hp0)]; exact e', kk⟩
          · exact (TabKp.new hp0).tabs fk.2
          · refine .tup (.inl ⟨.inl upd_same, fun z => ?_⟩) (.cons (Rp.stp ⟨keepE fun b o e _ => by rw [upd_ne (ne_of_none e hp0)]; exact e, fun _ z => .inl z⟩ r) .nil)
            obtain ⟨o, e⟩ := hB p0 z
            obtain ⟨o', e', _⟩ := fk.1 p0 o e (fun z => nomatch z)
            rw [hp0] at e'
            cases e'
        | one =>
          refine PSs.imp (pss_one (ps_ret (pe_word (Z := cxOf (L2.CX X.prog X.w) X.prog X.w X.K X.mg X.base ["_law_call", "_law_e"] "_law_said" (defScope stS) g cdv X.A X.stack s1 H1 fun _ _ _ => False) (i := 1) hz hfi B.word hgd rw_ B.bW B.gO B.mgW B.kpW rfl (.inl B.sl1) (by decide) (by decide) (by decide) rfl rfl))) ?_
          rintro D τ G ⟨h1, tb, x, Dc, d, Bar, rfl, rfl, kx, em, hB, hq⟩
          exact ⟨h1, tb, x, Dc, d, Bar, rfl, rfl, kx, em, hB, hq⟩
    · refine ⟨ρ, [some (.exn exD), none], h, S2, ⟨rfl, fun i s' e => ?_⟩, ?_⟩
      · match i, e with
        | 0, e =>
          have e' : some (some (Sl.exn exD)) = some (some s') := e
          cases e'
          exact ⟨.ref f, rfl, f, rfl, rfl⟩
        | 1, e => cases (show some (none : Slot) = some (some s') from e)
        | i + 2, e => simp at e
      · have P1 : Po X.K X.mg C Wx σ ρ H (relE X.K C) (match fe env h with
          | .ok (.val d) h' => (.ok (.val (.tuple [.str "told", d])) h' : Rz Sl)
          | .err x h' => if R.contains x.cls && x.fs.isEmpty then (match mw x with
            | some d => .ok (.val (if tup then .tuple [d] else d)) h'
            | none => .bad) else .bad
          | _ => .bad) Q := P0
        have back : ∀ {ρ' : Fps} {h' : Hs} {H' : Hp}, SimH X.K ⟨H1, ρ, C.Bar, C.T, some (f, exD)⟩ ρ' h' H' → Ex C ρ H ρ' H' ∧ SimH X.K C ρ' h' H' := fun S' => ⟨x1.trans (S'.seen (C := C) rfl rfl rfl), S1.backW (S'.cong rfl rfl rfl rfl)⟩
        cases q : fe env h with
        | bad => rw [q] at P1; exact P1.elim
        | ok s' h' =>
          rw [q] at P1
          cases s' with
          | loc n => exact P1.elim
          | inn n i => exact P1.elim
          | exn x => exact P1.elim
          | val d =>
            have e1 : sRet (eTup (aCons (eK (.str "told")) (aCons (eAct fe env) aNil))) [some (.exn exD), none] h = .ret (.val (.tuple [.str "told", d])) h' := by
              simp [eAct, q, v_line]
            rw [e1]
            intro ρ' v H' st S' r
            exact P1 ρ' v H' (back S').1 (back S').2 r
        | err x h' =>
          rw [q] at P1
          dsimp only at P1
          split at P1
          · rename_i hc
            obtain ⟨c1, c2⟩ := Bool.and_eq_true_iff.mp hc
            have c3 : x.fs = [] := by simpa using c2
            cases em : mw x with
            | none => rw [em] at P1; exact P1.elim
            | some d =>
              rw [em] at P1
              have e1 : sRet (eTup (aCons (eK (.str "told")) (aCons (eAct fe env) aNil))) [some (.exn exD), none] h = .err x [some (.exn exD), none] h' := by
                simp [eAct, q]
              rw [e1]
              intro ρ' σ' H' cls dd st S' E' xn
              obtain ⟨Dc, kx, ex⟩ := hX x c1 c3
              have ecl : cls = .ref Dc := Option.some.inj (xn.1.symm.trans kx.g)
              subst ecl
              have edd : dd = none := by
                rcases xn.2 with z | z
                · exact z.2
                · exact absurd c3 z.1
              subst edd
              have hl : σ'.length = 2 := E'.len.symm
              refine ⟨true, ex, fun _ a ha => ⟨by rw [List.getElem?_set, if_pos rfl, if_pos (by omega)], S'.tab, x, Dc, d, Mo C ρ', rfl, rfl, kx, em, fun b z => (back S').2.trkM z, fun v G' fk r => ?_⟩, fun z => nomatch z⟩
              have kp : KeepA H' G' := fun b o e => fk.1 b o e (fun z => nomatch z)
              exact P1 ρ' v G' ((back S').1.trans kp.ex) (kp.sim (back S').2 fk.2) r
          · exact P1.elim
  refine wpAny_call (codeAny_mono rc ?_)
  rintro (er | fl) s2 hq
  · obtain ⟨_, _, _, _, _, _, _, _, _, _, _, _, z⟩ := hq
    exact z.elim
  · cases fl with
    | ret u => exact I1.after hq
    | _ => exact False.elim hq
end
end FL

theorem L2.Room.u65 {k : Nat} {A : PySem.Around} (r : L2.Room k A) : A.units + 65 < PySem.cLine := by have := r.un; omega
theorem L2H.RoomH.u65 {k : Nat} {A : PySem.Around} (r : L2H.RoomH k A) : A.units + 65 < PySem.cLine := by have := r.un; omega
namespace FL
open PySem PySem.Spec PyProof.Rows L2
/-! ### repr(x) -/
def gRepr : GL := fun ss h => match ss with
  | [s] => match dat s h with
    | some d => if shp d && d.showable && decide (d.shown.length ≤ 16777216) then some (.str d.shown) else none
    | none => none
  | _ => none
section
variable {X : Cx} {C : Fc}
theorem call_repr (hg : X.A.guards = some []) (hu : X.A.units + 65 < cLine) : CallR X (.builtin "repr") fun xs H Q => ∃ v d, xs = [v] ∧ Dp X.K H v d ∧ shp d = true ∧ d.showable = true ∧ d.shown.length ≤ sizeLine ∧ Q (.str d.shown) H := by
  rintro pins s σ H xs us Q I r ⟨v, d, rfl, hd, sd, sh, hz, q⟩
  obtain ⟨u, rfl, ru⟩ := Vals.one r
  have fin : ∀ tk t, EP X pins σ Q (.str d.shown t) { s with toks := tk } := fun tk t => ⟨.str d.shown, H, I.tok _, ⟨_, rfl⟩, q⟩
  have nd : d.hasDict = false := PyData.hasDict_of_canLay d (SeqAt.canLay_of_shaped sd)
  have dp := SeqAt.depth_of_shaped sd
  have big : ∀ a, u = .ref a → wpAny (model X.prog X.w) X.A (call (.builtin "repr") [u]) (EP X pins σ Q) X.xe s := by
    rintro a rfl
    obtain ⟨as, rr⟩ := Dp.reads I d v _ hd ru
    exact repr_of_reads' rr sh (PyData.noDict_hsm nd) hg (by omega) (fun _ _ e => e) (fun h' t tk hk => ⟨.str d.shown, H, I.kept (t' := tk) hk, ⟨_, rfl⟩, q⟩) hz
  cases hd with
  | non => cases ru; exact PySem.P.repr_of_none (fin _ _)
  | bl b => cases ru; exact PySem.P.repr_of_bool (fin _ _)
  | int i =>
    obtain ⟨t, rfl⟩ := ru
    exact PySem.P.repr_of_int (of_decide_eq_true sh) (fin _ _)
  | str x =>
    obtain ⟨t, rfl⟩ := ru
    exact PySem.P.repr_of_str (fin _ _) hz
  | lst _ _ => exact big _ ru
  | tup _ _ => exact big _ ru
theorem c_repr (hg : X.A.guards = some []) (hu : X.A.units + 65 < cLine) : CallR X (.builtin "repr") (rdC X.K C gRepr) := fun pins s σ H xs us Q I r ⟨ρ, h, ss, d, S, r1, e, k⟩ => by
  refine call_repr hg hu pins s σ H xs us Q I r ?_
  unfold gRepr at e
  split at e
  · rename_i t
    split at e
    · rename_i z ez
      split at e
      · rename_i c
        rw [Bool.and_eq_true, Bool.and_eq_true] at c
        obtain ⟨⟨c1, c2⟩, c3⟩ := c
        cases e
        obtain ⟨y, rfl, ry⟩ := SlVs.one r1
        exact ⟨y, z, rfl, dat_rel S ry ez (shp_nd c1), c1, c2, by rw [sizeLine_eq]; exact of_decide_eq_true c3, k _ H (Ex.refl _ _ _) S (.str _)⟩
      · cases e
    · cases e
  · cases e
end
end FL

namespace FL
open PySem PySem.Spec PyProof.Rows L2
/-- a def whose lambdas' table is tracked -/
structure LamOk (base : Heap) (mg : Str → Option Value) (T : List (Addr × Str)) (fd : FuncData) (q : Str) : Prop where
  ex : ∃ c P, fd.code = .ref c ∧ LamX.TabB base mg c P ∧ (P, q) ∈ T ∧ ∀ p ∈ T, p.1 = P → p.2 = q
/-- said and its word, whatever the context -/
structure SaidAll (P : Program) (w : World) (K : PySem.W.Frag) (mg : Str → Option Value) (base : Heap) (T : List (Addr × Str)) (kw : Nat) (stS : Stmt) (ys R : List Str) (mw : Exn → Option PyData) (tup : Bool) : Prop where
  ex : ∃ (g fw : Addr) (fdS fdw : FuncData) (pw : Str), ∀ X : Cx, X.prog = P → X.w = w → X.K = K → X.mg = mg → X.base = base → SaidOk X T kw g fw stS fdS fdw pw ys R mw tup
section
variable {X : Cx} {C : Fc} {Wx : WX}
theorem fe_saidL {T : List (Addr × Str)} {stS : Stmt} {fd : FuncData} {k kw : Nat} {ys R : List Str} {mw : Exn → Option PyData} {tup : Bool} {params : Arguments} {body : Expr} {scope : Scope} {fe : Ev} {p lpos pos : Pos}
    (A : SaidAll X.prog X.w X.K X.mg X.base T kw stS ys R mw tup) (Lm : LamOk X.base X.mg T fd (X.env.qual ++ "<lambda>")) (hcode : X.env.code = fd.code) (hT : C.T = T) (hgd : X.A.guards = some []) (hr : Room (k + 2) X.A) (hkw : kw ≤ k + 1) (hg : Gl X "_law_said")
    (hL : LamX.lamSB X.env.scope scope = true) (hdef : defaultsOf params X.env = ([], []))
    (hbind : ∀ (q : Str) (cl : List (Str × Addr)) (pm cv ctv : Value), bindArgs (PySem.W.kla_fn "<lambda>" q params body scope cl pm cv ctv) ⟨[], []⟩ = pure [])
    (hbody : ∀ (f c' : Addr) (C' : Fc) (_ : C'.T = T) (E : XK) (A : Around) (outer : List Env) (s : Shared) (H : Hp), A.guards = some [] → Room k (A.deeper (LamX.lamEnv X scope s.heap.objs.size f c')) → FE (LamX.lamCx X A outer s H E scope f c') C' (Wq E) body fe) :
    FE X C Wx (.Call (.Name "_law_said" p) [.Lambda params body scope lpos] [] pos) (eSaid tup R mw fe) := by
  obtain ⟨c, P, e1, TB, m1, m2⟩ := Lm.ex
  obtain ⟨g, fw, fdS, fdw, pw, h⟩ := A.ex
  exact fe_said (h X rfl rfl rfl rfl rfl) hT hgd hr hkw hg TB (hcode.trans e1) m1 m2 (LamX.lamS_by hL) hdef hbind hbody
end
/-! ### reckoning -/
@[simp] theorem v_said {tup : Bool} {R : List Str} {mw : Exn → Option PyData} {fe : Ev} {env : En} {h h' : Hs} {d : PyData} (e : fe env h = .ok (.val d) h') : eSaid tup R mw fe env h = .ok (.val (.tuple [.str "told", d])) h' := by
  unfold eSaid
  rw [e]
theorem v_saidE {tup : Bool} {R : List Str} {mw : Exn → Option PyData} {fe : Ev} {env : En} {h h' : Hs} {x : Exn} {d : PyData} (e : fe env h = .err x h') (h1 : R.contains x.cls = true) (h2 : x.fs = []) (em : mw x = some d) : eSaid tup R mw fe env h = .ok (.val (if tup then .tuple [d] else d)) h' := by
  unfold eSaid
  rw [e]
  dsimp only
  rw [h1, h2, em]
  rfl
/-! ### xs + ys, the list one of the def's own -/
def eCatN (f1 f2 : Ev) : Ev := fun env h => (f1 env h).bind fun s h => (f2 env h).bind fun t h => match litems s h, litems t h with
  | some a, some b => if lineOk (a.length + b.length) then .ok (.loc h.length) (h ++ [.lst (a ++ b)]) else .bad
  | _, _ => .bad
theorem fe_catN {X : Cx} {C : Fc} {Wx : WX} {a b : Expr} {f1 f2 : Ev} {pos : Pos} (ha : FE X C Wx a f1) (hb : FE X C Wx b f2) : FE X C Wx (.BinOp a .Add b pos) (eCatN f1 f2) := PE.imp (pe_op op_catP ha hb) fun σ H Q p => by
  refine rd.bind (f := f1) (g := fun s env h => (f2 env h).bind fun t h => match litems s h, litems t h with
    | some a, some b => if lineOk (a.length + b.length) then (.ok (.loc h.length) (h ++ [.lst (a ++ b)]) : Rz Sl) else .bad
    | _, _ => .bad) p fun ρ1 env h1 s x H1 S1 E1 r1 P1 => ?_
  refine rd.of (env := env) (h := h1) S1 E1 ?_
  cases e : f2 env h1 with
  | err y h2 => rw [e] at P1; exact P1
  | bad => rw [e] at P1; exact P1
  | ok t h2 =>
    intro ρ2 y H2 x2 S2 r2
    rw [e, v_bind] at P1
    have P2 := Po.ex x2 P1
    split at P2
    · rename_i da db e1 e2
      split at P2
      · rename_i hl
        obtain ⟨p1, v1, rfl, q1, a1⟩ := litems_pl S2 (SlV.ex x2 r1) e1
        obtain ⟨p2, v2, rfl, q2, a2⟩ := litems_pl S2 r2 e2
        refine ⟨_, _, _, _, rfl, rfl, q1, q2, by rw [a1.length, a2.length]; exact lineOk_le hl, fun p hp => P2 (ρ2 ++ [[p]]) (.ref p) _ (Ex.push hp) (push_lst S2 hp (a1.append a2)) ?_⟩
        rw [← S2.len]
        exact SlV.pushed _
      · exact P2.elim
    · exact P2.elim
end FL

namespace FL
open PySem PySem.Spec PyProof.Rows L2
theorem fe_dnil {X : Cx} {C : Fc} {Wx : WX} {pos : Pos} : FE X C Wx (.Dict [] [] pos) (eK (.dict [])) := PE.imp pe_dnewK fun σ H Q ⟨ρ, env, h, S, E, P⟩ => fun p hp =>
  P ρ (.ref p) _ (Ex.laid S hp) (S.laid hp) (.dct [] ⟨upd_same, S.fresh hp⟩ rfl)
theorem fe_d1 {X : Cx} {C : Fc} {Wx : WX} {i j : Int} {k1 k2 : Nat} {p1 p2 pos : Pos} : FE X C Wx (.Dict [some (.Constant (.int i) k1 p1)] [.Constant (.int j) k2 p2] pos) (eK (.dict [(.int i, .int j)])) :=
  PE.imp (pe_disp (pps_cons pe_int pe_int pps_nil) rfl rfl (by simp) (by simp)) fun σ H Q ⟨ρ, env, h, S, E, P⟩ => fun p hp => by
    refine ⟨upd_same, [(.inl i, .int j)], rfl, by simp, ?_⟩
    rw [upd_upd]
    exact P ρ (.ref p) _ (Ex.laid S hp) (S.laid hp) (.dct [(i, j)] ⟨upd_same, S.fresh hp⟩ rfl)
end FL

namespace FL
open PySem PySem.Spec PyProof.Rows L2
/-! ### what the head tells: classes of refusals, tables of lambdas -/
def kitB (K : PySem.W.Frag) (D : Addr) (a y : Str) : Bool := match PySem.W.nsIn K mainGlobals y with
  | some (some (.ref c)) => PySem.W.kitOne K (.ref D) (.ref c) == some (subN a y)
  | some none => (!(y == ("__name__" : Str))) && (match bootBuiltins y with
    | some (.type n) => PySem.W.kitOne K (.ref D) (.type n) == some (subN a y)
    | _ => false)
  | _ => false
theorem kitB_ok {K : PySem.W.Frag} {h : Heap} {mg : Str → Option Value} {D : Addr} {a y : Str} (X : K.In h) (G : h.Ns mainGlobals mg) (e : kitB K D a y = true) : KitN K mg D a y := by
  unfold kitB at e
  split at e
  · rename_i c hc
    exact .inl ⟨c, PySem.W.mg_of X G hc, eq_of_beq e⟩
  · rename_i hc
    obtain ⟨e1, e2⟩ := Bool.and_eq_true_iff.mp e
    split at e2
    · rename_i n hn
      refine .inr ⟨PySem.W.mg_none_of X G hc, fun z => ?_, n, hn, eq_of_beq e2⟩
      rw [z] at e1
      cases e1
    · cases e2
  · cases e
def excB (K : PySem.W.Frag) (D : Addr) : Bool :=
  PySem.W.findIn K (.ref D) "__getattribute__" == some (some (.builtin "BaseException.__getattribute__")) && PySem.W.findIn K (.ref D) "__getattr__" == some none && PySem.W.subIn K (.ref D) (.type "BaseException") == some true &&
  PySem.W.hasDictIn K D && PySem.W.findIn K (.ref D) "__class__" == some (some (.builtin "object.__class__")) && PySem.W.specialIn K (.builtin "object.__class__") "__get__" == some (some (.builtin "getset_descriptor.__get__")) &&
  PySem.W.takesIn K (.builtin "object.__class__") == some true && PySem.W.mroIn K D (.type "object") == some true
theorem excB_ok {K : PySem.W.Frag} {D : Addr} (e : excB K D = true) : ExcC K D := by
  unfold excB at e
  simp only [Bool.and_eq_true] at e
  obtain ⟨⟨⟨⟨⟨⟨⟨h1, h2⟩, h3⟩, h4⟩, h5⟩, h6⟩, h7⟩, h8⟩ := e
  exact ⟨eq_of_beq h1, eq_of_beq h2, eq_of_beq h3, h4, eq_of_beq h5, eq_of_beq h6, eq_of_beq h7, eq_of_beq h8⟩
/-- a class of refusals without fields, with all that is asked of it -/
def clsB (K : PySem.W.Frag) (x : Str) : Bool := match PySem.W.nsIn K mainGlobals x with
  | some (some (.ref D)) => PySem.W.excIn K D [.type "ValueError", .type "Exception", .type "BaseException", .type "object"] "ValueError.__new__" && PySem.W.keepIn K (.ref D) && PySem.W.subIn K (.ref D) (.type "BaseException") == some true && PySem.W.typeIn K (.ref D) == some (.type "type")
  | _ => false
theorem clsB_ok {K : PySem.W.Frag} {h : Heap} {mg : Str → Option Value} {x : Str} (X : K.In h) (G : h.Ns mainGlobals mg) (e : clsB K x = true) : ∃ c, ExCls K mg x c := by
  unfold clsB at e
  split at e
  · rename_i D hD
    simp only [Bool.and_eq_true] at e
    obtain ⟨⟨⟨h1, h2⟩, h3⟩, h4⟩ := e
    exact ⟨D, PySem.W.mg_of X G hD, h1, h2, eq_of_beq h3, eq_of_beq h4⟩
  · cases e
def heldB (K : PySem.W.Frag) (ys : List Str) (cw x : Str) : Bool := match PySem.W.nsIn K mainGlobals x, PySem.W.nsIn K mainGlobals cw with
  | some (some (.ref D)), some (some (.ref CW)) => excB K D && PySem.W.exmOne K (.ref D) (.ref CW) == some true && ys.all (kitB K D x)
  | _, _ => false
theorem heldB_ok {K : PySem.W.Frag} {h : Heap} {mg : Str → Option Value} {ys R : List Str} {cw : Str} (X : K.In h) (G : h.Ns mainGlobals mg) (e0 : R.isEmpty = false) (e : R.all (heldB K ys cw) = true) :
    ∃ CW : Addr, mg cw = some (.ref CW) ∧ ∀ x : Exn, R.contains x.cls = true → x.fs = [] → ∃ D, KxOk K mg ys x D ∧ PySem.W.exmOne K (.ref D) (.ref CW) = some true := by
  have key : ∀ x ∈ R, ∃ D CW, mg x = some (.ref D) ∧ mg cw = some (.ref CW) ∧ ExcC K D ∧ PySem.W.exmOne K (.ref D) (.ref CW) = some true ∧ ∀ y ∈ ys, KitN K mg D x y := fun x hx => by
    have e1 := List.all_eq_true.mp e x hx
    unfold heldB at e1
    split at e1
    · rename_i D CW h1 h2
      simp only [Bool.and_eq_true] at e1
      obtain ⟨⟨k1, k2⟩, k3⟩ := e1
      exact ⟨D, CW, PySem.W.mg_of X G h1, PySem.W.mg_of X G h2, excB_ok k1, eq_of_beq k2, fun y hy => kitB_ok X G (List.all_eq_true.mp k3 y hy)⟩
    · cases e1
  cases R with
  | nil => cases e0
  | cons r0 R =>
    obtain ⟨_, CW, _, hCW, _⟩ := key r0 List.mem_cons_self
    refine ⟨CW, hCW, fun x hx hf => ?_⟩
    obtain ⟨D, CW', g1, g2, g3, g4, g5⟩ := key x.cls (by simpa using hx)
    have : CW' = CW := by
      rw [hCW] at g2
      cases g2
      rfl
    subst this
    exact ⟨D, ⟨g1, hf, g3, g5⟩, g4⟩
theorem tabIn_code {K : PySem.W.Frag} {x : Str} {f c P : Addr} {oc : Value} {od : Option Addr} {fd : FuncData} {sl : Array (Option Value)} (a : PySem.W.nsIn K mainGlobals x = some (some (.ref f))) (l : K.lookup f = some ⟨oc, od, .func fd, sl⟩) (t : PySem.W.tabIn K x = some (c, P)) : fd.code = .ref c := by
  unfold PySem.W.tabIn at t
  rw [a] at t
  dsimp only at t
  rw [l] at t
  dsimp only at t
  split at t
  · rename_i c' hc'
    split at t
    · split at t
      · cases t
        exact hc'
      · cases t
    · cases t
  · cases t
theorem uniq_keys {TT : List (Addr × Str)} {P : Addr} {q : Str} (nd : (TT.map (·.1)).Nodup) (m : (P, q) ∈ TT) : ∀ p ∈ TT, p.1 = P → p.2 = q := by
  induction TT with
  | nil => cases m
  | cons a r ih =>
    rw [List.map_cons, List.nodup_cons] at nd
    intro p hp e
    rcases List.mem_cons.mp m with m1 | m1
    · subst m1
      rcases List.mem_cons.mp hp with z | z
      · rw [z]
      · exact absurd (List.mem_map.mpr ⟨p, z, e⟩) nd.1
    · rcases List.mem_cons.mp hp with z | z
      · subst z
        exact absurd (List.mem_map.mpr ⟨(P, q), m1, e.symm⟩) nd.1
      · exact ih nd.2 m1 p z e
def tcOf (K : PySem.W.Frag) (x : Str) : Addr := ((PySem.W.tabIn K x).getD (0, 0)).1
def tpOf (K : PySem.W.Frag) (x : Str) : Addr := ((PySem.W.tabIn K x).getD (0, 0)).2
def lamQ (x : Str) : Str := x ++ ".<locals>." ++ "<lambda>"
def tabC (K : PySem.W.Frag) (xs : List Str) : List (Addr × Addr) := xs.map fun x => (tcOf K x, tpOf K x)
def tabT (K : PySem.W.Frag) (xs : List Str) : List (Addr × Str) := xs.map fun x => (tpOf K x, lamQ x)
def tabsB (K : PySem.W.Frag) (xs : List Str) : Bool := (xs.all fun x => (PySem.W.tabIn K x).isSome && (K.lookup (tpOf K x)).isNone) && decide ((xs.map (tpOf K)).Nodup)
theorem tabsB_ok {h : Heap} {K : PySem.W.Frag} {p : Program} {loose : List Str} {mean : ExcName → Option Value} {mg mb : Str → Option Value} {xs : List Str} (T : Top p loose mean mg mb h) (X : K.In h) (hr : ∀ x ∈ xs, ∃ d, (recsOf p).find? (fun e => e.name == x) = some d)
    (e : tabsB K xs = true) : TabsAt h K (tabC K xs) ∧ (∀ p ∈ tabT K xs, p.1 ∈ (tabC K xs).map (·.2)) ∧ ((tabT K xs).map (·.1)).Nodup ∧ ∀ x ∈ xs, PySem.W.tabIn K x = some (tcOf K x, tpOf K x) := by
  unfold tabsB at e
  obtain ⟨e1, e2⟩ := Bool.and_eq_true_iff.mp e
  have at_ : ∀ x ∈ xs, PySem.W.tabIn K x = some (tcOf K x, tpOf K x) ∧ K.lookup (tpOf K x) = none := fun x hx => by
    have q := List.all_eq_true.mp e1 x hx
    obtain ⟨q1, q2⟩ := Bool.and_eq_true_iff.mp q
    refine ⟨?_, by simpa using q2⟩
    obtain ⟨⟨c, P⟩, hc⟩ := Option.isSome_iff_exists.mp q1
    unfold tcOf tpOf
    rw [hc]
    rfl
  have each : ∀ x ∈ xs, PySem.W.CodeHd h (tcOf K x) (tpOf K x) ∧ h.get? (tpOf K x) = some (PySem.W.tabObj #[]) := fun x hx => by
    obtain ⟨d, hd⟩ := hr x hx
    exact PySem.W.tab_of T X hd (at_ x hx).1
  refine ⟨⟨fun p hp => ?_, fun p hp => ?_, fun p hp => ?_⟩, fun p hp => ?_, ?_, fun x hx => (at_ x hx).1⟩
  · obtain ⟨x, hx, rfl⟩ := List.mem_map.mp hp
    exact (each x hx).2
  · obtain ⟨x, hx, rfl⟩ := List.mem_map.mp hp
    exact (at_ x hx).2
  · obtain ⟨x, hx, rfl⟩ := List.mem_map.mp hp
    exact (each x hx).1
  · obtain ⟨x, hx, rfl⟩ := List.mem_map.mp hp
    exact List.mem_map.mpr ⟨(tcOf K x, tpOf K x), List.mem_map.mpr ⟨x, hx, rfl⟩, rfl⟩
  · have e3 : (xs.map (tpOf K)).Nodup := of_decide_eq_true e2
    unfold tabT
    rw [List.map_map]
    exact e3
theorem lamOk_of {K : PySem.W.Frag} {base : Heap} {mg : Str → Option Value} {xs : List Str} {x : Str} {f : Addr} {oc : Value} {od : Option Addr} {fd : FuncData} {sl : Array (Option Value)} (hx : x ∈ xs) (nd : ((tabT K xs).map (·.1)).Nodup) (t : ∀ x ∈ xs, PySem.W.tabIn K x = some (tcOf K x, tpOf K x))
    (TB : ∀ p ∈ tabC K xs, LamX.TabB base mg p.1 p.2) (a : PySem.W.nsIn K mainGlobals x = some (some (.ref f))) (l : K.lookup f = some ⟨oc, od, .func fd, sl⟩) : LamOk base mg (tabT K xs) fd (lamQ x) :=
  ⟨tcOf K x, tpOf K x, tabIn_code a l (t x hx), TB (tcOf K x, tpOf K x) (List.mem_map.mpr ⟨x, hx, rfl⟩), List.mem_map.mpr ⟨x, hx, rfl⟩, uniq_keys nd (List.mem_map.mpr ⟨x, hx, rfl⟩)⟩
end FL

namespace FL
open PySem PySem.Spec PyProof.Rows L2
/-! ### tuple(range(n)), list(range(n)) -/
def gTupRg : Sl → Hs → Option PyData := fun s _ => match s with
  | .val (.int n) => if -(2 ^ 62) ≤ n ∧ n ≤ 16777216 then some (.tuple (upTo 0 n.toNat)) else none
  | _ => none
def gLstRg : Sl → Hs → Option PyData := fun s _ => match s with
  | .val (.int n) => if -(2 ^ 62) ≤ n ∧ n ≤ 16777216 then some (.list (upTo 0 n.toNat)) else none
  | _ => none
theorem rp_rg {K : PySem.W.Frag} {H : Hp} {M : Ms} {n : Int} : RpAll K H M (rgV 0 n) (upTo 0 n.toNat) := by
  unfold rgV upTo
  rw [Int.sub_zero]
  have key : ∀ l : List Nat, RpAll K H M (l.map fun i => V.int (0 + (i : Nat))) (l.map fun (k : Nat) => PyData.int (0 + (k : Int))) := by
    intro l
    induction l with
    | nil => exact .nil
    | cons a l ih => exact .cons (.int _) ih
  exact key _
section
variable {X : Cx} {C : Fc} {Wx : WX} {a : Expr} {f : Ev} {p p2 q pos : Pos}
theorem fe_tupRg (hc : X.calm = true) (hg : Gl X "tuple") (hm : X.mg "tuple" = none) (hg2 : Gl X "range") (hm2 : X.mg "range" = none) (ha : FE X C Wx a f) (na : starEach [a] X.env = (false, eval a X.env) :: starEach [] X.env := by rfl)
    (nb : starEach [.Call (.Name "range" p2) [a] [] q] X.env = (false, eval (.Call (.Name "range" p2) [a] [] q) X.env) :: starEach [] X.env := by rfl) : FE X C Wx (.Call (.Name "tuple" p) [.Call (.Name "range" p2) [a] [] q] [] pos) (cUn gTupRg f) :=
  PE.imp (pe_tupRg hc hg hm (prg_1 hg2 hm2 ha na) nb) fun σ H Q pp => by
    refine rd.bind (f := f) (g := fun s env h => .give (gTupRg s h) h) pp fun ρ1 env h1 s v H1 S1 E1 r1 P1 => ?_
    obtain ⟨d, e, k⟩ := P1.given
    unfold gTupRg at e
    split at e
    · rename_i n
      split at e
      · rename_i hn
        cases e
        cases (show Rp X.K H1 (Mo C ρ1) v (.int n) from r1)
        refine ⟨n, rfl, ⟨by omega, by omega, by omega, by omega, by omega⟩, fun p hp => k _ _ (Ex.laid S1 hp) (S1.laid hp) (Rp.newTup S1 hp rp_rg)⟩
      · cases e
    · cases e
theorem fe_lstRg (hc : X.calm = true) (hg : Gl X "list") (hm : X.mg "list" = none) (hg2 : Gl X "range") (hm2 : X.mg "range" = none) (ha : FE X C Wx a f) (na : starEach [a] X.env = (false, eval a X.env) :: starEach [] X.env := by rfl)
    (nb : starEach [.Call (.Name "range" p2) [a] [] q] X.env = (false, eval (.Call (.Name "range" p2) [a] [] q) X.env) :: starEach [] X.env := by rfl) : FE X C Wx (.Call (.Name "list" p) [.Call (.Name "range" p2) [a] [] q] [] pos) (cUn gLstRg f) :=
  PE.imp (pe_listRg hc hg hm (prg_1 hg2 hm2 ha na) nb) fun σ H Q pp => by
    refine rd.bind (f := f) (g := fun s env h => .give (gLstRg s h) h) pp fun ρ1 env h1 s v H1 S1 E1 r1 P1 => ?_
    obtain ⟨d, e, k⟩ := P1.given
    unfold gLstRg at e
    split at e
    · rename_i n
      split at e
      · rename_i hn
        cases e
        cases (show Rp X.K H1 (Mo C ρ1) v (.int n) from r1)
        refine ⟨n, rfl, ⟨by omega, by omega, by omega, by omega, by omega⟩, fun p hp => k _ _ (Ex.laid S1 hp) (S1.laid hp) (Rp.newLst S1 hp rp_rg)⟩
      · cases e
    · cases e
end
end FL

namespace FL
open PySem PySem.Spec PyProof.Rows L2
/-! ### reckoning: statements by what they leave -/
def Nx (r : Fl) (P : En → Hs → Prop) : Prop := ∃ e h, r = .next e h ∧ P e h
theorem Nx.of {r : Fl} {e : En} {h : Hs} {P : En → Hs → Prop} (q : r = .next e h) (p : P e h) : Nx r P := ⟨e, h, q, p⟩
theorem Nx.mono {r : Fl} {P Q : En → Hs → Prop} (x : Nx r P) (i : ∀ e h, P e h → Q e h) : Nx r Q := let ⟨e, h, q, p⟩ := x; ⟨e, h, q, i e h p⟩
theorem Nx.seq {p q : Sv} {env : En} {h : Hs} {A B : En → Hs → Prop} (x : Nx (p env h) A) (y : ∀ e h, A e h → Nx (q e h) B) : Nx (sSeq p q env h) B := by
  obtain ⟨e, h1, q1, a⟩ := x
  rw [v_seq, q1, v_seqN]
  exact y e h1 a
theorem Nx.loop {tg : Tg} {p : Sv} {n : Nat} {I : En → Hs → Prop} : ∀ {ds : List PyData}, (∀ d ∈ ds, ∀ env h, I env h → ∃ e1, tg.put d env = some e1 ∧ Nx (p e1 h) fun e h => I (cutE n e) (h.take n)) → ∀ {env : En} {h : Hs}, I env h → Nx (loopF tg p n ds env h) I
  | [], _, env, h, i => ⟨env, h, rfl, i⟩
  | d :: ds, st, env, h, i => by
    obtain ⟨e1, q1, e, h1, q2, j⟩ := st d List.mem_cons_self env h i
    unfold loopF
    rw [q1]
    dsimp only
    rw [q2]
    exact Nx.loop (fun d m => st d (List.mem_cons_of_mem _ m)) j
/-- .. by what is left -/
theorem Nx.loopR {tg : Tg} {p : Sv} {n : Nat} {I : List PyData → En → Hs → Prop} : ∀ {ds : List PyData}, (∀ d rest env h, I (d :: rest) env h → ∃ e1, tg.put d env = some e1 ∧ Nx (p e1 h) fun e h => I rest (cutE n e) (h.take n)) → ∀ {env : En} {h : Hs}, I ds env h → Nx (loopF tg p n ds env h) (I [])
  | [], _, env, h, i => ⟨env, h, rfl, i⟩
  | d :: ds, st, env, h, i => by
    obtain ⟨e1, q1, e, h1, q2, j⟩ := st d ds env h i
    unfold loopF
    rw [q1]
    dsimp only
    rw [q2]
    exact Nx.loopR st j
theorem Nx.forR {src : En → Hs → Rz (List PyData)} {tg : Tg} {p : Sv} {ds : List PyData} {env : En} {h h1 : Hs} {I : List PyData → En → Hs → Prop} (q : src env h = .ok ds h1) (i : I ds env h1)
    (st : ∀ d rest env h, I (d :: rest) env h → ∃ e1, tg.put d env = some e1 ∧ Nx (p e1 h) fun e h => I rest (cutE h1.length e) (h.take h1.length)) : Nx (sFor src tg p env h) (I []) := by
  rw [v_for, q, v_fl]
  exact Nx.loopR st i
theorem Nx.for_ {src : En → Hs → Rz (List PyData)} {tg : Tg} {p : Sv} {ds : List PyData} {env : En} {h h1 : Hs} {I : En → Hs → Prop} (q : src env h = .ok ds h1) (i : I env h1)
    (st : ∀ d ∈ ds, ∀ env h, I env h → ∃ e1, tg.put d env = some e1 ∧ Nx (p e1 h) fun e h => I (cutE h1.length e) (h.take h1.length)) : Nx (sFor src tg p env h) I := by
  rw [v_for, q, v_fl]
  exact Nx.loop st i
/-- a test that is not met -/
theorem Nx.if_f {c : Tv} {p q : Sv} {env : En} {h h1 : Hs} {P : En → Hs → Prop} (e : c env h = .ok false h1) (x : Nx (q env h1) P) : Nx (sIf c p q env h) P := by
  rw [v_sif, e, v_fl]
  simpa using x
theorem Nx.if_t {c : Tv} {p q : Sv} {env : En} {h h1 : Hs} {P : En → Hs → Prop} (e : c env h = .ok true h1) (x : Nx (p env h1) P) : Nx (sIf c p q env h) P := by
  rw [v_sif, e, v_fl]
  simpa using x
theorem Nx.set_ {i : Nat} {f : Ev} {env : En} {h h1 : Hs} {s : Sl} {P : En → Hs → Prop} (e : f env h = .ok s h1) (p : P (env.set i (some s)) h1) : Nx (sSet i f env h) P := by
  rw [v_set, e, v_fl]
  exact ⟨_, _, rfl, p⟩
theorem Nx.seqSet {i : Nat} {f : Ev} {q : Sv} {env : En} {h h1 : Hs} {s : Sl} {P : En → Hs → Prop} (e : f env h = .ok s h1) (y : Nx (q (env.set i (some s)) h1) P) : Nx (sSeq (sSet i f) q env h) P := by
  rw [v_seq, v_set, e, v_fl, v_seqN]
  exact y
theorem Nx.seqEq {p q : Sv} {env e1 : En} {h h1 : Hs} {P : En → Hs → Prop} (e : p env h = .next e1 h1) (y : Nx (q e1 h1) P) : Nx (sSeq p q env h) P := by
  rw [v_seq, e, v_seqN]
  exact y
/-! ### what is shown -/
structure Rk (w k : Nat) (d : PyData) : Prop where
  lay : d.canLay0 = true
  dep : d.depth ≤ k
  sh : d.showable = true
  len : d.shown.length ≤ w
theorem Rk.mono {w w' k k' : Nat} {d : PyData} (r : Rk w k d) (h1 : w ≤ w') (h2 : k ≤ k') : Rk w' k' d := ⟨r.lay, Nat.le_trans r.dep h2, r.sh, Nat.le_trans r.len h1⟩
theorem Rk.none : Rk 4 0 .none := ⟨by rfl, by simp [PyData.depth], by rfl, by decide⟩
theorem Rk.bool {b : Bool} : Rk 5 0 (.bool b) := ⟨by rfl, by simp [PyData.depth], by rfl, by cases b <;> decide⟩
theorem Rk.int {i : Int} (h : i.natAbs < 2 ^ 1920) : Rk 1921 0 (.int i) := by
  have q : i.natAbs.log2 < 1920 := by
    by_cases z : i.natAbs = 0
    · rw [z]; decide
    · exact (Nat.log2_lt z).mpr h
  refine ⟨by rfl, by simp [PyData.depth], by simp [PyData.showable, q], ?_⟩
  have := int_text_length_le (by decide) q
  have e : (PyData.shown (.int i)).length = (toString i).length := by
    show (Str.ofString (toString i)).length = _
    exact PySem.ofString_length _
  rw [e]; exact this
theorem Rk.small {i : Int} (h1 : -9223372036854775808 ≤ i) (h2 : i < 9223372036854775808) : Rk 1921 0 (.int i) := Rk.int (Nat.lt_of_lt_of_le (show i.natAbs < 2 ^ 64 by omega) (Nat.pow_le_pow_right (by decide) (by decide)))
theorem lay_all {ds : List PyData} {w k : Nat} (h : ∀ d ∈ ds, Rk w k d) : PyData.canLayAll0 ds = true ∧ PyData.depthAll ds ≤ k ∧ PyData.showableAll ds = true ∧ ((PyData.shownAll ds).map (·.length)).sum ≤ ds.length * w ∧ (PyData.shownAll ds).length = ds.length := by
  induction ds with
  | nil => simp [PyData.canLayAll0, PyData.depthAll, PyData.showableAll, PyData.shownAll]
  | cons d ds ih =>
    obtain ⟨a, b, c, e, f⟩ := ih fun x m => h x (List.mem_cons_of_mem _ m)
    obtain ⟨h1, h2, h3, h4⟩ := h d List.mem_cons_self
    refine ⟨by simp [PyData.canLayAll0, h1, a], by simp [PyData.depthAll]; omega, by simp [PyData.showableAll, h3, c], ?_, by simp [PyData.shownAll, f]⟩
    simp only [PyData.shownAll, List.map_cons, List.sum_cons, List.length_cons, Nat.add_mul, Nat.one_mul]
    omega
theorem Rk.tuple {w k : Nat} {ds : List PyData} (h : ∀ d ∈ ds, Rk w k d) : Rk (ds.length * (w + 2) + 3) (k + 1) (.tuple ds) := by
  obtain ⟨a, b, c, e, f⟩ := lay_all h
  refine ⟨by simpa [PyData.canLay0] using a, by simp [PyData.depth]; omega, by simpa [PyData.showable] using c, ?_⟩
  have := tupleText_len_le (PyData.shownAll ds)
  simp only [PyData.shown, Nat.mul_add]
  omega
theorem Rk.list {w k : Nat} {ds : List PyData} (h : ∀ d ∈ ds, Rk w k d) : Rk (ds.length * (w + 2) + 3) (k + 1) (.list ds) := by
  obtain ⟨a, b, c, e, f⟩ := lay_all h
  refine ⟨by simpa [PyData.canLay0] using a, by simp [PyData.depth]; omega, by simpa [PyData.showable] using c, ?_⟩
  have := listText_len_le (PyData.shownAll ds)
  simp only [PyData.shown, Nat.mul_add]
  omega
theorem Rk.shp {w k : Nat} {d : PyData} (r : Rk w k d) (hk : k ≤ 64) : shp d = true := by
  unfold FL.shp SeqAt.shaped
  rw [r.lay, decide_eq_true (Nat.le_trans r.dep hk)]
  rfl
theorem v_repr {w k : Nat} {d : PyData} {s : Sl} {h : Hs} (e : dat s h = some d) (r : Rk w k d) (hk : k ≤ 64) (hw : w ≤ 16777216) : gRepr [s] h = some (.str d.shown) := by
  show (match dat s h with | some d => _ | none => none) = _
  rw [e]
  dsimp only
  rw [r.shp hk, r.sh, decide_eq_true (Nat.le_trans r.len hw)]
  rfl
theorem eqv_refl_str {x : Str} : PyData.eqv (.str x) (.str x) = true := by simp [PyData.eqv]
end FL

namespace FL
open PySem PySem.Spec PyProof.Rows L2
/-- a road, a net -/
structure Road where
  one : Nat
  other : Nat
  cost : Nat
  time : Nat
def Road.d (r : Road) : PyData := .tuple [.int r.one, .int r.other, .int r.cost, .int r.time]
def netD (n : Nat) (rs : List Road) : PyData := .tuple [.int n, .tuple (rs.map Road.d)]
structure Road.Ok (n : Nat) (r : Road) : Prop where
  one : r.one < n
  other : r.other < n
  ne : r.one ≠ r.other
  c1 : 1 ≤ r.cost
  c2 : r.cost ≤ 99
  t : r.time ≤ 99
structure NetOk (n : Nat) (rs : List Road) : Prop where
  n1 : 1 ≤ n
  n2 : n ≤ 10
  len : rs.length ≤ 30
  all : ∀ r ∈ rs, r.Ok n
theorem cut_to {ds : List PyData} {k : Nat} : cutD ds none (some (k : Int)) = ds.take k := by
  unfold cutD
  rw [HT.sIx_nat, HT.sIx_none, List.drop_zero, Nat.sub_zero]
  by_cases q : k ≤ ds.length
  · rw [Nat.min_eq_left q]
  · rw [Nat.min_eq_right (by omega), List.take_of_length_le (Nat.le_refl _), List.take_of_length_le (by omega)]
theorem cut_to2 {ds : List PyData} : cutD ds none (some 2) = ds.take 2 := cut_to (k := 2)
@[simp] theorem putAt_ {n : Nat} {i : Int} {d : PyData} {h : Hs} : putAt (.loc n) (.val (.int i)) (.val d) h = match h[n]? with
    | some (.lst ds) => (match ixN ds.length i with
      | some j => some (h.set n (.lst (ds.set j d)))
      | none => none)
    | _ => none := id rfl
theorem ixN_nat {n k : Nat} (h : k < n) : ixN n (k : Int) = some k := by
  unfold ixN
  rw [if_pos (Int.natCast_nonneg k), if_pos (by omega)]
  rfl
@[simp] theorem v_outR {k : Nat} {ds : List PyData} {h : Hs} (hn : noLs ds = true) (e : h[k]? = some (.lst ds)) {fr : Bool} : outD fr k (.loc k) h = .ok (.list ds) (h.take k) := by
  unfold outD
  simp [e, hn]
theorem v_outO {k n : Nat} {ds : List PyData} {h : Hs} (hk : k ≤ n) (e : h[n]? = some (.lst ds)) : outD false k (.loc n) h = .ok (.list ds) (h.take k) := by
  unfold outD
  simp [e, hk]
@[simp] theorem v_mt {m : GM} {f : Ev} {a : Av} {env : En} {h : Hs} : eMt m f a env h = (f env h).bind fun s h => if (litems s h).isSome = true then (a env h).bind fun ss h => match m s ss h with
  | some (d, h') => .ok (.val d) h'
  | none => .bad else .bad := id rfl
@[simp] theorem v_app {n : Nat} {d : PyData} {h : Hs} : mAppend (.loc n) [.val d] h = match h[n]? with
    | some (.lst ds) => if ds.length < 16777216 then some (.none, h.set n (.lst (ds ++ [d]))) else none
    | _ => none := id rfl
@[simp] theorem v_augIx {g : G2} {fo fi fe : Ev} {env : En} {h : Hs} : sAugIx g fo fi fe env h = (fo env h).fl env fun s h => (fi env h).fl env fun t h => match lix s t h with
  | some x => (fe env h).fl env fun u h => match g (.val x) u h with
    | some d => match putAt s t (.val d) h with
      | some h' => .next env h'
      | none => .bad
    | none => .bad
  | none => .bad := id rfl
/-! ### what is drawn -/
structure Dr where
  a : Nat
  b : Nat
  hb : b < 2147483647
def Dr.o (s : Dr) : Ob := .lst [.int s.a, .int s.b]
def Dr.b1 (s : Dr) : Nat := (s.b * 48271 + 29) % 2147483647
def Dr.x1 (s : Dr) : Nat := (s.b1 * s.b1 + 39373 * s.b1 + 7) % 2147483629
def Dr.x2 (s : Dr) : Nat := (s.x1 * s.x1 + 16807 * s.x1) % 2147483587
def Dr.tk (s : Dr) (far : Int) : Int := if 0 < s.a then s.a % far else s.x2 / 8 % far
def Dr.nx (s : Dr) (far : Int) : Dr := if 0 < s.a then ⟨(s.a / far).toNat, s.b, s.hb⟩ else ⟨0, s.b1, Nat.mod_lt _ (by decide)⟩
@[simp] theorem tk_nn {s : Dr} {far : Int} (h : 0 < far) : 0 ≤ s.tk far := by
  unfold Dr.tk
  split <;> exact Int.emod_nonneg _ (by omega)
@[simp] theorem tk_lt {s : Dr} {far : Int} (h : 0 < far) : s.tk far < far := by
  unfold Dr.tk
  split <;> exact Int.emod_lt_of_pos _ h
@[simp] theorem v_put {fo fi fe : Ev} {env : En} {h : Hs} : sPut fo fi fe env h = (fe env h).fl env fun u h => (fo env h).fl env fun s h => (fi env h).fl env fun t h => match putAt s t u h with
  | some h' => .next env h'
  | none => .bad := id rfl
@[simp] theorem ix0 {n : Nat} : ixN (n + 1) 0 = some 0 := ixN_nat (k := 0) (by omega)
@[simp] theorem ix1 {n : Nat} : ixN (n + 2) 1 = some 1 := ixN_nat (k := 1) (by omega)
theorem pick2 {a b i : Int} (h1 : 0 ≤ i) (h2 : i < 2) : atI [PyData.int a, .int b] i = some (.int (if i = 0 then a else b)) := by
  rcases (by omega : i = 0 ∨ i = 1) with rfl | rfl <;> rfl
theorem pick3 {a b c i : Int} (h1 : 0 ≤ i) (h2 : i < 3) : atI [PyData.int a, .int b, .int c] i = some (.int (if i = 0 then a else if i = 1 then b else c)) := by
  rcases (by omega : i = 0 ∨ i = 1 ∨ i = 2) with rfl | rfl | rfl <;> rfl
@[simp] theorem pick2t {a b : Int} {s : Dr} : atI [PyData.int a, .int b] (s.tk 2) = some (.int (if s.tk 2 = 0 then a else b)) := pick2 (tk_nn (by decide)) (tk_lt (by decide))
@[simp] theorem pick3t {a b c : Int} {s : Dr} : atI [PyData.int a, .int b, .int c] (s.tk 3) = some (.int (if s.tk 3 = 0 then a else if s.tk 3 = 1 then b else c)) := pick3 (tk_nn (by decide)) (tk_lt (by decide))
theorem line_s {n : Nat} {z : PyData} (hn : n ≤ 4) : line? n z = some z := v_line (by omega)
theorem mod_wrap {a y n : Int} (h1 : 0 ≤ a) (h2 : a < n) (h3 : 1 ≤ y) (h4 : y < n) : 0 ≤ (a + y) % n ∧ (a + y) % n < n ∧ a ≠ (a + y) % n := by
  have h5 : 0 < n := by omega
  refine ⟨Int.emod_nonneg _ (by omega), Int.emod_lt_of_pos _ h5, ?_⟩
  by_cases q : a + y < n
  · rw [Int.emod_eq_of_lt (by omega) q]; omega
  · have e : (a + y) % n = (a + y - n) % n := by rw [Int.sub_emod_right]
    rw [e, Int.emod_eq_of_lt (by omega) (by omega)]; omega
/-! ### calls that refuse -/
theorem call_e {m : Fm} {fr : Bool} {io : List Bool} {ss : List Sl} {ds : List PyData} {x : Exn} {h : Hs} (hv : vals? ss = some ds) (hi : io = ss.map fun _ => false) (e : m ds [] = .err x []) : callF m io fr ss h = .err x h := by
  have w : ∀ (ss : List Sl) (ds : List PyData), vals? ss = some ds → splitA (ss.map fun _ => false) ss h = some (ds, [], [], []) := by
    intro ss
    induction ss with
    | nil => intro ds q; cases q; rfl
    | cons s r ih =>
      intro ds q
      cases s with
      | loc n => cases q
      | inn n i => cases q
      | exn y => cases q
      | val d =>
        have q' : (vals? r).map (d :: ·) = some ds := q
        cases q2 : vals? r with
        | none => rw [q2] at q'; cases q'
        | some rs =>
          rw [q2] at q'
          cases q'
          simp only [List.map_cons, splitA, ih rs q2, dat0]
  subst hi
  unfold callF
  rw [w ss ds hv]
  dsimp only
  rw [if_pos ⟨rfl, Or.inl rfl⟩, e]
  dsimp only
  rw [if_pos (Or.inl rfl)]
  rfl
section
variable {m : Fm} {fr : Bool} {x : Exn} {h : Hs} {x1 x2 x3 x4 x5 x6 z : PyData}
@[simp] theorem call1e (e : m [x1] [] = .err x []) : callF m [false] fr [.val x1] h = .err x h := call_e rfl rfl e
@[simp] theorem call2e (e : m [x1, x2] [] = .err x []) : callF m [false, false] fr [.val x1, .val x2] h = .err x h := call_e rfl rfl e
@[simp] theorem call3e (e : m [x1, x2, x3] [] = .err x []) : callF m [false, false, false] fr [.val x1, .val x2, .val x3] h = .err x h := call_e rfl rfl e
@[simp] theorem call4e (e : m [x1, x2, x3, x4] [] = .err x []) : callF m [false, false, false, false] fr [.val x1, .val x2, .val x3, .val x4] h = .err x h := call_e rfl rfl e
@[simp] theorem call5e (e : m [x1, x2, x3, x4, x5] [] = .err x []) : callF m [false, false, false, false, false] fr [.val x1, .val x2, .val x3, .val x4, .val x5] h = .err x h := call_e rfl rfl e
@[simp] theorem call6e (e : m [x1, x2, x3, x4, x5, x6] [] = .err x []) : callF m [false, false, false, false, false, false] fr [.val x1, .val x2, .val x3, .val x4, .val x5, .val x6] h = .err x h := call_e rfl rfl e
@[simp] theorem call5 (e : m [x1, x2, x3, x4, x5] [] = .ok z []) : callF m [false, false, false, false, false] fr [.val x1, .val x2, .val x3, .val x4, .val x5] h = .ok (.val z) h := call_d rfl rfl e
@[simp] theorem call6 (e : m [x1, x2, x3, x4, x5, x6] [] = .ok z []) : callF m [false, false, false, false, false, false] fr [.val x1, .val x2, .val x3, .val x4, .val x5, .val x6] h = .ok (.val z) h := call_d rfl rfl e
end
/-! ### what is said -/
def said? (tup : Bool) (R : List Str) (mw : Exn → Option PyData) (r : Rz Sl) : Rz Sl := match r with
  | .ok (.val d) h' => .ok (.val (.tuple [.str "told", d])) h'
  | .err x h' => if R.contains x.cls && x.fs.isEmpty then (match mw x with
    | some d => .ok (.val (if tup then .tuple [d] else d)) h'
    | none => .bad) else .bad
  | _ => .bad
section
variable {tup : Bool} {R : List Str} {mw : Exn → Option PyData} {fe : Ev} {env : En} {h : Hs} {d : PyData} {x : Str}
@[simp] theorem v_said2 : eSaid tup R mw fe env h = said? tup R mw (fe env h) := by unfold eSaid said?; rfl
@[simp] theorem said_ok : said? tup R mw (.ok (.val d) h) = .ok (.val (.tuple [.str "told", d])) h := id rfl
theorem said_err (h1 : R.contains x = true) (em : mw ⟨x, []⟩ = some d) : said? tup R mw (.err ⟨x, []⟩ h) = .ok (.val (if tup then .tuple [d] else d)) h := by
  unfold said?
  dsimp only
  rw [h1, em]
  rfl
end
theorem v_neS {x y : Str} {h : Hs} : gNe (.val (.str x)) (.val (.str y)) h = some (.bool (!decide (x = y))) := by
  show some (PyData.bool (!PyData.eqv (.str x) (.str y))) = _
  by_cases q : x = y <;> simp [PyData.eqv, q]
@[simp] theorem v_neSS {x : Str} {h : Hs} : gNe (.val (.str x)) (.val (.str x)) h = some (.bool false) := by
  rw [v_neS, decide_eq_true rfl]; rfl
/-! ### any data -/
@[simp] theorem v_isaD {c : String} {ps : List (PyData × PyData)} {h : Hs} : gIsa c (.val (.dict ps)) h = some (.bool (isaN c "dict")) := id rfl
@[simp] theorem v_isb1 : isaN "int" "dict" = false := by decide
@[simp] theorem v_isb2 : isaN "tuple" "dict" = false := by decide
@[simp] theorem v_isb3 : isaN "list" "dict" = false := by decide
@[simp] theorem v_isb4 : isaN "str" "dict" = false := by decide
@[simp] theorem v_isb5 : isaN "str" "int" = false := by decide
@[simp] theorem v_isb6 : isaN "str" "bool" = false := by decide
@[simp] theorem v_isb7 : isaN "str" "list" = false := by decide
@[simp] theorem v_isb8 : isaN "str" "tuple" = false := by decide
@[simp] theorem v_isb9 : isaN "str" "NoneType" = false := by decide
@[simp] theorem v_isc1 : isaN "list" "int" = false := by decide
@[simp] theorem v_isc2 : isaN "list" "bool" = false := by decide
@[simp] theorem v_isc3 : isaN "list" "str" = false := by decide
@[simp] theorem v_isc4 : isaN "list" "NoneType" = false := by decide
/-- a whole number from one to another one -/
def amB (d : PyData) (a b : Int) : Bool := match d with
  | .int i => decide (a ≤ i) && decide (i ≤ b)
  | _ => false
@[simp] theorem amB_int {i a b : Int} : amB (.int i) a b = (decide (a ≤ i) && decide (i ≤ b)) := id rfl
@[simp] theorem amB_none {a b : Int} : amB .none a b = false := id rfl
@[simp] theorem amB_bool {x : Bool} {a b : Int} : amB (.bool x) a b = false := id rfl
@[simp] theorem amB_str {x : Str} {a b : Int} : amB (.str x) a b = false := id rfl
@[simp] theorem amB_list {x : List PyData} {a b : Int} : amB (.list x) a b = false := id rfl
@[simp] theorem amB_tuple {x : List PyData} {a b : Int} : amB (.tuple x) a b = false := id rfl
@[simp] theorem amB_dict {x : List (PyData × PyData)} {a b : Int} : amB (.dict x) a b = false := id rfl
/-! ### whole numbers in a row -/
def natsD (ws : List Nat) : List PyData := ws.map fun w => .int (w : Nat)
theorem eqv_int {i j : Int} : PyData.eqv (.int i) (.int j) = (i == j) := by simp [PyData.eqv]
theorem rk_nats {ws : List Nat} (h : ∀ w ∈ ws, w < 9223372036854775808) : Rk (ws.length * 1923 + 3) 1 (.tuple (natsD ws)) := by
  have := Rk.tuple (w := 1921) (k := 0) (ds := natsD ws) fun d m => by
    obtain ⟨w, hw, rfl⟩ := List.mem_map.mp m
    have := h w hw
    exact Rk.small (by omega) (by omega)
  simpa [natsD] using this
theorem any_nats {ws : List Nat} {r : Nat} : ((natsD ws).any fun z => PyData.eqv z (.int (r : Nat))) = ws.contains r := by
  induction ws with
  | nil => rfl
  | cons w ws ih =>
    have e : ((natsD (w :: ws)).any fun z => PyData.eqv z (.int (r : Nat))) = (PyData.eqv (.int (w : Nat)) (.int (r : Nat)) || (natsD ws).any fun z => PyData.eqv z (.int (r : Nat))) := rfl
    rw [e, ih, eqv_int, List.contains_cons]
    congr 1
    by_cases q : w = r
    · subst q
      rw [beq_self_eq_true, beq_self_eq_true]
    · have q1 : ¬ (w : Int) = (r : Int) := by omega
      have q2 : ¬ r = w := fun z => q z.symm
      rw [beq_eq_false_iff_ne.mpr q1, beq_eq_false_iff_ne.mpr q2]
theorem shp_of {w k : Nat} {d : PyData} (r : Rk w k d) (hk : k ≤ 64) : shp d = true := r.shp hk
theorem v_inN {ws : List Nat} {r : Nat} {h : Hs} (hw : ∀ w ∈ ws, w < 9223372036854775808) : gIn (.val (.int (r : Nat))) (.val (.tuple (natsD ws))) h = some (.bool (ws.contains r)) := by
  have e1 : shp (.int (r : Nat)) = true := rfl
  have e2 : shp (.list (natsD ws)) = true := by
    have := Rk.list (w := 1921) (k := 0) (ds := natsD ws) fun d m => by
      obtain ⟨w, h1, rfl⟩ := List.mem_map.mp m
      have := hw w h1
      exact Rk.small (by omega) (by omega)
    exact this.shp (by decide)
  show (if shp _ && shp _ then _ else none) = _
  rw [e1, e2, any_nats]
  rfl
/-! ### comprehensions -/
theorem comp_id {tg : Tg} {c : Tv} {f : Ev} {env : En} {h : Hs} {E : PyData → En} {w : PyData → PyData} (hp : ∀ z, tg.put z env = some (E z)) (hc : ∀ z, c (E z) h = .ok true h) (xs : List PyData) (acc : List PyData) (hf : ∀ z ∈ xs, f (E z) h = .ok (.val (w z)) h)
    (hl : acc.length + xs.length ≤ 16777216) : compL tg c f env xs acc h = .ok (acc ++ xs.map w) h := by
  have := comp_map (dd := id) (w := w) (E := E) (tg := tg) (c := c) (f := f) (env := env) (h := h) hp hc xs acc hf hl
  simpa using this
/-- a comprehension whose items change what is drawn from -/
theorem comp_inv {tg : Tg} {f : Ev} {env : En} {J : Hs → Prop} {P : PyData → Prop} : ∀ (xs : List PyData) (acc : List PyData) (h : Hs), (∀ z ∈ xs, ∀ h, J h → ∃ e1 x h', tg.put z env = some e1 ∧ f e1 h = .ok (.val x) h' ∧ J h' ∧ P x) → acc.length + xs.length ≤ 16777216 → J h →
    ∃ out h', compL tg tTrue f env xs acc h = .ok (acc ++ out) h' ∧ J h' ∧ (∀ x ∈ out, P x) ∧ out.length = xs.length
  | [], acc, h, _, _, j => ⟨[], h, by simp [compL], j, by simp, rfl⟩
  | z :: xs, acc, h, st, hl, j => by
    obtain ⟨e1, x, h1, q1, q2, j1, p1⟩ := st z List.mem_cons_self h j
    have hl' : acc.length + xs.length + 1 ≤ 16777216 := hl
    obtain ⟨out, h2, q3, j2, p2, l2⟩ := comp_inv xs (acc ++ [x]) h1 (fun y m => st y (List.mem_cons_of_mem _ m)) (by rw [List.length_append, List.length_singleton]; omega) j1
    refine ⟨x :: out, h2, ?_, j2, fun y m => ?_, by rw [List.length_cons, List.length_cons, l2]⟩
    · unfold compL
      rw [q1]
      dsimp only
      rw [show tTrue e1 h = .ok true h from rfl]
      dsimp only
      rw [q2]
      dsimp only
      rw [if_pos (by omega), q3]
      simp
    · rcases List.mem_cons.mp m with rfl | m
      · exact p1
      · exact p2 y m
theorem nats_of {m : Nat} : ∀ {out : List PyData}, (∀ x ∈ out, ∃ w : Nat, w < m ∧ x = .int w) → ∃ ws : List Nat, out = natsD ws ∧ ws.length = out.length ∧ ∀ w ∈ ws, w < m
  | [], _ => ⟨[], rfl, rfl, by simp⟩
  | x :: out, h => by
    obtain ⟨w, hw, rfl⟩ := h x List.mem_cons_self
    obtain ⟨ws, e, l, q⟩ := nats_of (out := out) fun y m => h y (List.mem_cons_of_mem _ m)
    subst e
    refine ⟨w :: ws, rfl, by simp [natsD], fun v m => ?_⟩
    rcases List.mem_cons.mp m with rfl | m
    · exact hw
    · exact q v m
theorem upTo_nats {m : Nat} : upTo 0 m = natsD (List.range m) := by
  unfold upTo natsD
  refine List.map_congr_left fun k _ => ?_
  rw [Int.zero_add]
theorem natsD_rev {ws : List Nat} : (natsD ws).reverse = natsD ws.reverse := by unfold natsD; rw [List.map_reverse]
@[simp] theorem v_tupRg {m : Nat} {h : Hs} (hm : m ≤ 16777216) : gTupRg (.val (.int (m : Nat))) h = some (.tuple (natsD (List.range m))) := by
  show (if -(2 ^ 62) ≤ (m : Int) ∧ (m : Int) ≤ 16777216 then some (PyData.tuple (upTo 0 (m : Int).toNat)) else none) = _
  rw [if_pos ⟨by omega, by omega⟩, Int.toNat_natCast, upTo_nats]
@[simp] theorem v_negI {i : Int} {h : Hs} : gNeg (.val (.int i)) h = some (.int (-i)) := id rfl
theorem v_pow10 {k : Nat} {h : Hs} (hk : k ≤ 1000) : gI fPow (.val (.int 10)) (.val (.int (k : Nat))) h = some (.int (10 ^ k)) := by
  show fPow 10 k = _
  unfold fPow
  rw [if_pos ⟨by omega, by omega, by decide⟩, Int.toNat_natCast]
/-! ### what is compared with itself -/
mutual
theorem eqv_self : ∀ d : PyData, d.canLay0 = true → PyData.eqv d d = true
  | .none, _ => by simp [PyData.eqv]
  | .bool _, _ => by simp [PyData.eqv]
  | .int _, _ => by simp [PyData.eqv]
  | .str _, _ => by simp [PyData.eqv]
  | .list xs, h => by simpa [PyData.eqv] using eqvAll_self xs (by simpa [PyData.canLay0] using h)
  | .tuple xs, h => by simpa [PyData.eqv] using eqvAll_self xs (by simpa [PyData.canLay0] using h)
  | .dict _, h => by simp [PyData.canLay0] at h
theorem eqvAll_self : ∀ xs : List PyData, PyData.canLayAll0 xs = true → PyData.eqvAll xs xs = true
  | [], _ => by simp [PyData.eqvAll]
  | x :: xs, h => by
    have h' : x.canLay0 = true ∧ PyData.canLayAll0 xs = true := by simpa [PyData.canLayAll0] using h
    simp [PyData.eqvAll, eqv_self x h'.1, eqvAll_self xs h'.2]
end
theorem v_ne_self {w k : Nat} {d : PyData} {h : Hs} (r : Rk w k d) (hk : k ≤ 64) : gNe (.val d) (.val d) h = some (.bool false) := by
  show (if eqOk d d then some (PyData.bool (!PyData.eqv d d)) else none) = _
  have e : eqOk d d = true := by
    unfold eqOk
    split
    · rfl
    · rw [r.shp hk]; rfl
  rw [e, eqv_self d r.lay]
  rfl
theorem rk_word {x : Str} (h : (PyData.str x).canLay0 = true) (hl : (PyData.str x).shown.length ≤ 1000) : Rk 1005 1 (.tuple [.str x]) := by
  refine (Rk.tuple (w := 1000) (k := 0) (ds := [.str x]) fun d m => ?_).mono (by simp) (Nat.le_refl _)
  rw [List.mem_singleton.mp m]
  exact ⟨h, by simp [PyData.depth], by simp [PyData.showable], hl⟩
theorem cut_from {ds : List PyData} {k : Nat} : cutD ds (some (k : Int)) none = ds.drop k := by
  unfold cutD
  rw [HT.sIx_nat, HT.sIx_none]
  by_cases q : k ≤ ds.length
  · rw [Nat.min_eq_left q, List.take_of_length_le (by rw [List.length_drop]; omega)]
  · rw [Nat.min_eq_right (by omega), List.drop_of_length_le (Nat.le_refl _), List.drop_of_length_le (by omega)]
    simp
theorem enum_cons {j : Nat} {d : PyData} {ds : List PyData} : enumD j (d :: ds) = .tuple [.int j, d] :: enumD (j + 1) ds := rfl
@[simp] theorem v_srcEnum {f : Av} {env : En} {h : Hs} : srcEnum f env h = (f env h).bind fun ss h => match ss with
  | [.val (.tuple ds)] => .ok (enumD 0 ds) h
  | [.val (.list ds)] => .ok (enumD 0 ds) h
  | _ => .bad := id rfl
theorem v_inS {x y : Str} {h : Hs} (h1 : PyData.strOk x = true) (h2 : PyData.strOk y = true) : gIn (.val (.str x)) (.val (.list [.str y])) h = some (.bool (decide (y = x))) := by
  have e1 : shp (.str x) = true := by unfold shp SeqAt.shaped; simp [PyData.canLay0, PyData.depth, h1]
  have e2 : shp (.list [.str y]) = true := by unfold shp SeqAt.shaped; simp [PyData.canLay0, PyData.canLayAll0, PyData.depth, PyData.depthAll, h2]
  show (if shp _ && shp _ then _ else none) = _
  rw [e1, e2]
  by_cases q : y = x <;> simp [PyData.eqv, q]
theorem pickL (L : List PyData) (s : Dr) {k : Int} (hk : (L.length : Int) = k) (h0 : 0 < k) : ∃ d, d ∈ L ∧ atI L (s.tk k) = some d := by
  have t1 := tk_nn (s := s) h0
  have t2 := tk_lt (s := s) h0
  obtain ⟨i, hi⟩ : ∃ i : Nat, s.tk k = i := ⟨(s.tk k).toNat, by omega⟩
  have hi2 : i < L.length := by omega
  exact ⟨L[i], List.getElem_mem hi2, by rw [hi, v_atC, List.getElem?_eq_getElem hi2]⟩
end FL

namespace FL
open PySem PySem.Spec PyProof.Rows L2
/-! ### an object of the def's own becomes data -/
def frzS (n : Nat) (d : PyData) (s : Slot) : Slot := match s with
  | some (.loc k) => if k = n then some (.val d) else some (.loc k)
  | some (.inn k i) => if k = n then none else some (.inn k i)
  | s => s
def obD (o : Option Ob) : Option PyData := match o with
  | some (.lst ds) => some (.list ds)
  | some (.lls dss) => some (.list (dss.map .list))
  | _ => none
def frz? (k i : Nat) (env : En) (h : Hs) : Option (En × Hs) := match env[i]? with
  | some (some (.loc n)) => if k ≤ n then (obD h[n]?).map fun d => (env.map (frzS n d), h.set n .gone) else none
  | some (some (.val _)) => some (env, h)
  | _ => none
/-- the object at a slot becomes data, then the rest -/
def sFrz (k i : Nat) (g : Sv) : Sv := fun env h => match frz? k i env h with
  | some (e, h) => g e h
  | none => .bad
theorem flat_set {ρ : Fps} {n : Nat} {a : Addr} (m : a ∈ (ρ.set n []).flatten) : a ∈ ρ.flatten := by
  obtain ⟨fp, h1, h2⟩ := List.mem_flatten.mp m
  rcases List.mem_or_eq_of_mem_set h1 with z | z
  · exact List.mem_flatten.mpr ⟨fp, z, h2⟩
  · subst z; cases h2
theorem flat_set_nd : ∀ {ρ : Fps} {n : Nat}, ρ.flatten.Nodup → (ρ.set n []).flatten.Nodup
  | [], _, h => h
  | fp :: ρ, 0, h => by
    rw [List.flatten_cons, List.nodup_append] at h
    simpa using h.2.1
  | fp :: ρ, n + 1, h => by
    rw [List.flatten_cons, List.nodup_append] at h
    rw [List.set_cons_succ, List.flatten_cons, List.nodup_append]
    exact ⟨h.1, flat_set_nd h.2.1, fun x hx y hy => h.2.2 x hx y (flat_set hy)⟩
section
variable {K : PySem.W.Frag} {C : Fc} {ρ : Fps} {h : Hs} {H : Hp}
theorem Mo.gone {n : Nat} {b : Addr} (m : Mo C (ρ.set n []) b) : Mo C ρ b := m.imp flat_set id
theorem Mo.out {n : Nat} {fp : List Addr} {a : Addr} (S : SimH K C ρ h H) (e : ρ[n]? = some fp) (ma : a ∈ fp) : ¬ Mo C (ρ.set n []) a := fun m => by
  rcases m with m | m
  · obtain ⟨fq, h1, h2⟩ := List.mem_flatten.mp m
    obtain ⟨k, hk, ek⟩ := List.getElem_of_mem h1
    have e2 : (ρ.set n [])[k]? = some fq := by rw [← ek]; exact List.getElem?_eq_getElem hk
    by_cases q : n = k
    · subst q
      rw [List.getElem?_set, if_pos rfl] at e2
      split at e2
      · cases e2; cases h2
      · cases e2
    · rw [List.getElem?_set_ne q] at e2
      exact q (nodup_apart S.nd e e2 ma h2)
  · exact (S.bar a m).1 (flat_at e ma)
theorem SimH.gone (S : SimH K C ρ h H) {n : Nat} (hn : C.W.length ≤ n) : SimH K C (ρ.set n []) (h.set n .gone) H where
  len := by rw [List.length_set, List.length_set]; exact S.len
  nd := flat_set_nd S.nd
  trk := fun a m => S.trk a (flat_set m)
  obj := fun k fp o e1 e2 => by
    by_cases q : n = k
    · subst q
      rw [List.getElem?_set, if_pos rfl] at e1 e2
      split at e1
      · cases e1
        split at e2
        · cases e2; exact rfl
        · cases e2
      · cases e1
    · rw [List.getElem?_set_ne q] at e1 e2
      exact ObOk.fewer (fun _ => Mo.gone) (S.obj k fp o e1 e2)
  frK := S.frK
  own := fun a m => S.own a (flat_set m)
  bar := fun b m => ⟨fun z => (S.bar b m).1 (flat_set z), (S.bar b m).2⟩
  wtr := S.wtr
  pre := fun k fp e => by
    have e' := S.pre k fp e
    have := (List.getElem?_eq_some_iff.mp e).1
    rw [List.getElem?_set_ne (by omega)]
    exact e'
  tab := S.tab
/-- what stood there, as data -/
theorem obD_rel (S : SimH K C ρ h H) {n : Nat} {fp : List Addr} {a : Addr} {d : PyData} (e1 : ρ[n]? = some fp) (e2 : fp.head? = some a) (e3 : obD h[n]? = some d) : Rp K H (Mo C (ρ.set n [])) (.ref a) d := by
  unfold obD at e3
  split at e3
  · rename_i ds e4
    cases e3
    obtain ⟨e1', vs, q, ra⟩ := S.lst e1 e2 e4
    exact .lst (.inl ⟨.inl q, Mo.out S e1' (by simp)⟩) (ra.fewer fun _ => Mo.gone)
  · rename_i dss e4
    cases e3
    obtain ⟨b, bs, rfl, q, hl, w⟩ := S.obj n fp _ e1 e4
    have eb : b = a := by simpa using e2
    subst eb
    refine .lst (.inl ⟨.inl q, Mo.out S e1 (by simp)⟩) ?_
    have key : ∀ (bs : List Addr) (dss : List (List PyData)), bs.length = dss.length → (∀ c ∈ bs, ¬ Mo C (ρ.set n []) c) → (∀ (i : Nat) (b : Addr) (ds : List PyData), bs[i]? = some b → dss[i]? = some ds → ∃ vs, H b = some (.lst vs) ∧ RpAll K H (Mo C ρ) vs ds) → RpAll K H (Mo C (ρ.set n [])) (bs.map V.ref) (dss.map .list) := by
      intro bs
      induction bs with
      | nil =>
        intro dss hl _ _
        cases dss with
        | nil => exact .nil
        | cons _ _ => cases hl
      | cons b bs ih =>
        intro dss hl hn hw
        cases dss with
        | nil => cases hl
        | cons ds dss =>
          obtain ⟨vs, q1, q2⟩ := hw 0 b ds rfl rfl
          exact .cons (.lst (.inl ⟨.inl q1, hn b (by simp)⟩) (q2.fewer fun _ => Mo.gone)) (ih dss (by simpa using hl) (fun c hc => hn c (List.mem_cons_of_mem _ hc)) fun i b ds h1 h2 => hw (i + 1) b ds (by simpa using h1) (by simpa using h2))
    exact key bs dss hl (fun c hc => Mo.out S e1 (List.mem_cons_of_mem _ hc)) w
  · cases e3
theorem frz_ok {k i : Nat} {env env' : En} {h' : Hs} {σ : St} (S : SimH K C ρ h H) (E : EnvOk K C ρ H env σ) (hW : C.W.length ≤ k) (e : frz? k i env h = some (env', h')) : ∃ ρ', Stp (Mo C ρ) H (Mo C ρ') H ∧ SimH K C ρ' h' H ∧ EnvOk K C ρ' H env' σ := by
  unfold frz? at e
  split at e
  · rename_i n en
    split at e
    · rename_i hk
      cases q : obD h[n]? with
      | none => rw [q] at e; cases e
      | some d =>
        rw [q] at e
        cases e
        obtain ⟨v, ev, fp, a, e1, e2, rfl⟩ := E.at_ i _ en
        refine ⟨ρ.set n [], ⟨keepE fun _ _ z _ => z, fun _ m => .inl (Mo.gone m)⟩, S.gone (Nat.le_trans hW hk), by rw [List.length_map]; exact E.len, fun j s ej => ?_⟩
        rw [List.getElem?_map] at ej
        cases qj : env[j]? with
        | none => rw [qj] at ej; cases ej
        | some sj =>
          rw [qj] at ej
          have ej' : frzS n d sj = some s := Option.some.inj ej
          cases sj with
          | none => cases ej'
          | some t =>
            obtain ⟨v, ev, rv⟩ := E.at_ j t qj
            refine ⟨v, ev, ?_⟩
            cases t with
            | val d' => cases ej'; exact Rp.fewer (fun _ => Mo.gone) rv
            | exn x => cases ej'; exact rv
            | loc m =>
              have ej2 : (if m = n then some (Sl.val d) else some (.loc m)) = some s := ej'
              obtain ⟨fp2, a2, q1, q2, rfl⟩ := rv
              split at ej2
              · rename_i hm
                cases ej2
                subst hm
                rw [e1] at q1
                cases q1
                rw [e2] at q2
                cases q2
                exact obD_rel S e1 e2 q
              · rename_i hm
                cases ej2
                exact ⟨fp2, a2, by rw [List.getElem?_set_ne (fun z => hm z.symm)]; exact q1, q2, rfl⟩
            | inn m l =>
              have ej2 : (if m = n then none else some (Sl.inn m l)) = some s := ej'
              obtain ⟨fp2, a2, q1, q2, rfl⟩ := rv
              split at ej2
              · cases ej2
              · rename_i hm
                cases ej2
                exact ⟨fp2, a2, by rw [List.getElem?_set_ne (fun z => hm z.symm)]; exact q1, q2, rfl⟩
    · cases e
  · cases e
    exact ⟨ρ, Stp.refl _ _, S, E⟩
  · cases e
end
section
variable {X : Cx} {C : Fc} {Wx : WX} {rest : List Stmt} {st : Stmt} {g : Sv}
theorem rdS_frz {K : PySem.W.Frag} {mg : Str → Option Value} {k i : Nat} {D : Ends} {σ : St} {H : Hp} (hW : C.W.length ≤ k) (p : rdS K mg C Wx (sFrz k i g) D σ H) : rdS K mg C Wx g D σ H := by
  obtain ⟨ρ, env, h, S, E, P⟩ := p
  unfold sFrz at P
  cases q : frz? k i env h with
  | none => rw [q] at P; exact P.elim
  | some eh =>
    obtain ⟨e, h'⟩ := eh
    rw [q] at P
    obtain ⟨ρ', st, S', E'⟩ := frz_ok S E hW q
    exact ⟨ρ', e, h', S', E', PoS.stp (r := g e h') st P⟩
theorem fss_frz {k i : Nat} (hW : C.W.length ≤ k) (h : FSs X C Wx rest g) : FSs X C Wx rest (sFrz k i g) := PSs.imp h fun D σ H p => rdS_frz hW p
theorem fs_frz {k i : Nat} (hW : C.W.length ≤ k) (h : FS X C Wx st g) : FS X C Wx st (sFrz k i g) := PS.imp h fun D σ H p => rdS_frz hW p
/-! ### a, b, c = x, y, z -/
theorem SlVs.three {K : PySem.W.Frag} {ρ : Fps} {H : Hp} {s t u : Sl} {xs : List V} (r : SlVs K C ρ H xs [s, t, u]) : ∃ x y z, xs = [x, y, z] ∧ SlV K C ρ H x s ∧ SlV K C ρ H y t ∧ SlV K C ρ H z u := by
  cases r with
  | cons r1 r2 =>
    obtain ⟨y, z, rfl, ry, rz⟩ := SlVs.two r2
    exact ⟨_, y, z, rfl, r1, ry, rz⟩
theorem fs_par3 {i j l : Nat} {x y z : Str} {a b c : Expr} {f : Av} {px py pz pt pos : Pos} {kt k2 pt2} (hc : X.calm = true) (hN : X.N.Nodup) (hi : X.N[i]? = some x) (hj : X.N[j]? = some y) (hl : X.N[l]? = some z) (hij : i ≠ j) (hil : i ≠ l) (hjl : j ≠ l)
    (hx : X.env.scope.names.lookup x = some .local) (hy : X.env.scope.names.lookup y = some .local) (hz : X.env.scope.names.lookup z = some .local) (ha : FA X C Wx [a, b, c] f)
    (hw : swappedStores [.Tuple [.Name x px, .Name y py, .Name z pz] kt pt] (.Tuple [a, b, c] k2 pt2) X.env = pure (some [x, y, z]))
    (hs : swapsWithSole [.Tuple [.Name x px, .Name y py, .Name z pz] kt pt] (.Tuple [a, b, c] k2 pt2) pos.line X.env = pure false := by rfl) :
    FS X C Wx (.Assign [.Tuple [.Name x px, .Name y py, .Name z pz] kt pt] (.Tuple [a, b, c] k2 pt2) pos) (sPar3 i j l f) := PS.imp (ps_par3 hc hN hi hj hl hij hil hjl hx hy hz ha hw hs) fun D σ H p => by
  refine rdS.bind (f := f) (g := fun ss env h => match ss with
    | [s, t, u] => (.next (((env.set i (some s)).set j (some t)).set l (some u)) h : Fl)
    | _ => .bad) p fun ρ1 env h1 a b H1 S1 E1 r1 P1 => ?_
  match a, r1, P1 with
  | [s, t, u], r1, P1 =>
    obtain ⟨v, w, z, rfl, rv, rw', rz⟩ := SlVs.three r1
    exact ⟨v, w, z, rfl, P1 ρ1 _ H1 (Stp.refl _ _) S1 (((E1.set rv i).set rw' j).set rz l)⟩
  | [], _, P1 => exact P1.elim
  | [_], _, P1 => exact P1.elim
  | [_, _], _, P1 => exact P1.elim
  | _ :: _ :: _ :: _ :: _, _, P1 => exact P1.elim
/-! ### list(x), a list of the def's own -/
def eListN (f : Av) : Ev := fun env h => (f env h).bind fun ss h => match ss with
  | [s] => match items s h with
    | some ds => .ok (.loc h.length) (h ++ [.lst ds])
    | none => .bad
  | _ => .bad
theorem fe_listN {e : Expr} {f : Av} {p pos : Pos} (hg : Gl X "list") (hm : X.mg "list" = none) (hv : bootBuiltins "list" = some (.type "list")) (ha : FA X C Wx [e] f)
    (he : starEach [e] X.env = (false, eval e X.env) :: starEach [] X.env := by rfl) (hpl : (backTo pos (starEach [] X.env)).any (·.1) = false := by rfl) : FE X C Wx (.Call (.Name "list" p) [e] [] pos) (eListN f) :=
  PE.imp (pe_callTy call_list_of hg hm hv ha (by decide) (by decide) he hpl) fun σ H Q p => by
    refine rd.bind (f := f) (g := fun ss env h => match ss with
      | [s] => (match items s h with
        | some ds => (.ok (.loc h.length) (h ++ [.lst ds]) : Rz Sl)
        | none => .bad)
      | _ => .bad) p fun ρ1 env h1 ss xs H1 S1 E1 r1 P1 => ?_
    match ss, r1, P1 with
    | [s], r1, P1 =>
      obtain ⟨v, rfl, rv⟩ := SlVs.one r1
      dsimp only at P1
      cases q : items s h1 with
      | none => rw [q] at P1; exact P1.elim
      | some ds =>
        rw [q] at P1
        obtain ⟨a, vs, rfl, sq, ra⟩ := items_rel S1 rv q
        refine ⟨a, vs, rfl, sq, fun l hl => P1 (ρ1 ++ [[l]]) (.ref l) _ (Ex.push hl) (push_lst S1 hl ra) ?_⟩
        rw [← S1.len]
        exact SlV.pushed _
    | [], _, P1 => exact P1.elim
    | _ :: _ :: _, _, P1 => exact P1.elim
/-! ### xs.pop(i), xs.pop() -/
def mPopAt : GM := fun s ss h => match s, ss with
  | .loc n, [.val (.int i)] => match h[n]? with
    | some (.lst ds) => if -(2 ^ 63) ≤ i ∧ i < 2 ^ 63 then (match seqIndex? i ds.length with
      | some k => (ds[k]?).map fun d => (d, h.set n (.lst (ds.eraseIdx k)))
      | none => none) else none
    | _ => none
  | _, _ => none
theorem m_popAt : MtR X "list.pop" (rdM X.K C mPopAt) := MtR.imp mt_popAt fun x xs H Q ⟨ρ, h, s, ss, d, h', S, r1, r2, e, k⟩ => by
  unfold mPopAt at e
  split at e
  · rename_i n i
    split at e
    · rename_i ds e3
      split at e
      · rename_i hi
        split at e
        · rename_i j ej
          cases q : ds[j]? with
          | none => rw [q] at e; cases e
          | some d0 =>
            rw [q] at e
            cases e
            obtain ⟨fp, a, e1, e2, rfl⟩ := r1
            obtain ⟨y, rfl, ry⟩ := SlVs.one r2
            cases (show Rp X.K H (Mo C ρ) y (.int i) from ry)
            obtain ⟨e1', vs, q1, ra⟩ := S.lst e1 e2 e3
            obtain ⟨z, ez, rz⟩ := ra.get q
            have st : Stp (Mo C ρ) H (Mo C ρ) (upd H a (.lst (vs.eraseIdx j))) := ⟨keepE fun b u z nm => by
              have : b ≠ a := fun w => nm (w ▸ .inl (flat_at e1' (by simp)))
              rw [upd_ne this]; exact z, fun _ mm => .inl mm⟩
            have W := S.write (ob := .lst (ds.eraseIdx j)) (o := .lst (vs.eraseIdx j)) e1' ⟨a, _, rfl, upd_same, (ra.stp st).eraseIdx j⟩
            exact ⟨a, vs, i, j, z, rfl, rfl, q1, hi.1, hi.2, by rw [ra.length]; exact ej, ez, k z _ W.2 W.1 (Rp.stp st rz)⟩
        · cases e
      · cases e
    · cases e
  · cases e
def mPop : GM := fun s ss h => match s, ss with
  | .loc n, [] => match h[n]? with
    | some (.lst ds) => (ds[ds.length - 1]?).map fun d => (d, h.set n (.lst ds.dropLast))
    | _ => none
  | _, _ => none
theorem RpAll.dropLast {K : PySem.W.Frag} {H : Hp} {M : Ms} {vs : List V} {ds : List PyData} (r : RpAll K H M vs ds) : RpAll K H M vs.dropLast ds.dropLast := by
  rw [List.dropLast_eq_take, List.dropLast_eq_take, r.length]
  exact r.take _
theorem m_pop : MtR X "list.pop" (rdM X.K C mPop) := MtR.imp mt_pop fun x xs H Q ⟨ρ, h, s, ss, d, h', S, r1, r2, e, k⟩ => by
  unfold mPop at e
  split at e
  · rename_i n
    split at e
    · rename_i ds e3
      cases q : ds[ds.length - 1]? with
      | none => rw [q] at e; cases e
      | some d0 =>
        rw [q] at e
        cases e
        obtain ⟨fp, a, e1, e2, rfl⟩ := r1
        cases r2
        obtain ⟨e1', vs, q1, ra⟩ := S.lst e1 e2 e3
        obtain ⟨z, ez, rz⟩ := ra.get q
        have st : Stp (Mo C ρ) H (Mo C ρ) (upd H a (.lst vs.dropLast)) := ⟨keepE fun b u z nm => by
          have : b ≠ a := fun w => nm (w ▸ .inl (flat_at e1' (by simp)))
          rw [upd_ne this]; exact z, fun _ mm => .inl mm⟩
        have W := S.write (ob := .lst ds.dropLast) (o := .lst vs.dropLast) e1' ⟨a, _, rfl, upd_same, (ra.stp st).dropLast⟩
        exact ⟨a, vs, z, rfl, rfl, q1, by rw [ra.length]; exact ez, k z _ W.2 W.1 (Rp.stp st rz)⟩
    · cases e
  · cases e
def eMt0 (m : GM) (f : Ev) : Ev := fun env h => (f env h).bind fun s h => if (litems s h).isSome = true then (match m s [] h with
  | some (d, h') => .ok (.val d) h'
  | none => .bad) else .bad
theorem fe_mt0 {o : Expr} {f : Ev} {name : Str} {apos cpos : Pos} {id : String} {m : GM} (slot : PySem.Slot "list" name id) (hty : typeOf (.builtin id) = pure (.type "method_descriptor")) (hm : MtR X id (rdM X.K C m)) (ho : FE X C Wx o f)
    (hbase : attributeBase o name X.env (eval o X.env) = eval o X.env := by rfl) (hline : (apos.endLine == cpos.line) = true := by rfl) :
    FE X C Wx (.Call (.Attribute o name apos) [] [] cpos) (eMt0 m f) := PE.imp (pe_bm0 PySem.F.plainAttrs_list slot hty hm ho hbase hline) fun σ H Q p => by
  refine rd.bind (f := f) (g := fun s env h => if (litems s h).isSome = true then (match m s [] h with
    | some (d, h') => (.ok (.val d) h' : Rz Sl)
    | none => .bad) else .bad) p fun ρ1 env h1 s x H1 S1 E1 r1 P1 => ?_
  split at P1
  · rename_i hl
    obtain ⟨ds, el⟩ := Option.isSome_iff_exists.mp hl
    obtain ⟨a, vs, rfl, sq, ra⟩ := litems_rel S1 r1 el
    cases q : m s [] h1 with
    | none => rw [q] at P1; exact P1.elim
    | some dh =>
      obtain ⟨d, h'⟩ := dh
      rw [q] at P1
      exact ⟨.inl ⟨rfl, _, sq⟩, ρ1, h1, s, [], d, h', S1, r1, .nil, q, fun v H' x S r => P1 ρ1 v H' x S r⟩
  · exact P1.elim
end
end FL

namespace FL
open PySem PySem.Spec PyProof.Rows L2
/-! ### lists of lists of the def's own -/
section
variable {K : PySem.W.Frag} {C : Fc} {ρ : Fps} {h : Hs} {H : Hp}
theorem flat_setF {ρ : Fps} {n : Nat} {fp fq : List Addr} {a : Addr} (e : ρ[n]? = some fp) (m : a ∈ (ρ.set n fq).flatten) : a ∈ ρ.flatten ∨ a ∈ fq := by
  obtain ⟨fr, h1, h2⟩ := List.mem_flatten.mp m
  rcases List.mem_or_eq_of_mem_set h1 with z | z
  · exact .inl (List.mem_flatten.mpr ⟨fr, z, h2⟩)
  · subst z; exact .inr h2
theorem flat_setI : ∀ {ρ : Fps} {n : Nat} {fp fq : List Addr} {a : Addr}, ρ[n]? = some fp → (∀ b ∈ fp, b ∈ fq) → a ∈ ρ.flatten → a ∈ (ρ.set n fq).flatten
  | [], _, _, _, _, e, _, _ => by simp at e
  | f :: ρ, 0, fp, fq, a, e, s, m => by
    have e' : f = fp := by simpa using e
    subst e'
    rw [List.flatten_cons] at m
    rw [List.set_cons_zero, List.flatten_cons]
    rcases List.mem_append.mp m with z | z
    · exact List.mem_append_left _ (s a z)
    · exact List.mem_append_right _ z
  | f :: ρ, n + 1, fp, fq, a, e, s, m => by
    rw [List.flatten_cons] at m
    rw [List.set_cons_succ, List.flatten_cons]
    rcases List.mem_append.mp m with z | z
    · exact List.mem_append_left _ z
    · exact List.mem_append_right _ (flat_setI (by simpa using e) s z)
theorem flat_setN : ∀ {ρ : Fps} {n : Nat} {fp : List Addr} {b : Addr}, ρ.flatten.Nodup → ρ[n]? = some fp → b ∉ ρ.flatten → (ρ.set n (fp ++ [b])).flatten.Nodup
  | [], _, _, _, _, e, _ => by simp at e
  | f :: ρ, 0, fp, b, nd, e, hb => by
    have e' : f = fp := by simpa using e
    subst e'
    rw [List.flatten_cons] at nd hb
    rw [List.set_cons_zero, List.flatten_cons]
    rw [List.nodup_append] at nd ⊢
    refine ⟨List.nodup_append.mpr ⟨nd.1, by simp, fun x hx y hy z => ?_⟩, nd.2.1, fun x hx y hy z => ?_⟩
    · have : y = b := by simpa using hy
      subst this; subst z
      exact hb (List.mem_append_left _ hx)
    · rcases List.mem_append.mp hx with w | w
      · exact nd.2.2 x w y hy z
      · have : x = b := by simpa using w
        subst this; subst z
        exact hb (List.mem_append_right _ hy)
  | f :: ρ, n + 1, fp, b, nd, e, hb => by
    rw [List.flatten_cons] at nd hb
    rw [List.set_cons_succ, List.flatten_cons]
    rw [List.nodup_append] at nd ⊢
    have e' : ρ[n]? = some fp := by simpa using e
    refine ⟨nd.1, flat_setN nd.2.1 e' (fun z => hb (List.mem_append_right _ z)), fun x hx y hy z => ?_⟩
    rcases flat_setF e' hy with w | w
    · exact nd.2.2 x hx y w z
    · rcases List.mem_append.mp w with w | w
      · exact nd.2.2 x hx y (flat_at e' w) z
      · have : y = b := by simpa using w
        subst this; subst z
        exact hb (List.mem_append_left _ hx)
/-- one more empty list in a list of lists -/
theorem SimH.grow (S : SimH K C ρ h H) {n : Nat} {D b : Addr} {bs : List Addr} {dss : List (List PyData)} (hn : C.W.length ≤ n) (e1 : ρ[n]? = some (D :: bs)) (e2 : h[n]? = some (.lls dss)) (eb : H b = none) :
    SimH K C (ρ.set n (D :: (bs ++ [b]))) (h.set n (.lls (dss ++ [[]]))) (upd (upd H b (.lst [])) D (.lst ((bs ++ [b]).map V.ref))) ∧ Ex C ρ H (ρ.set n (D :: (bs ++ [b]))) (upd (upd H b (.lst [])) D (.lst ((bs ++ [b]).map V.ref))) := by
  obtain ⟨D', bs', efp, hD, hl, w⟩ := S.obj n _ _ e1 e2
  cases efp
  have mD : D ∈ ρ.flatten := flat_at e1 (by simp)
  have nb : b ∉ ρ.flatten := fun z => by
    obtain ⟨o, q⟩ := S.trk b z
    rw [eb] at q; cases q
  have nDb : D ≠ b := fun z => nb (z ▸ mD)
  have nbar : ¬ C.Bar b := fun z => by
    obtain ⟨_, o, q⟩ := S.bar b z
    rw [eb] at q; cases q
  have other : ∀ c, c ≠ D → c ≠ b → upd (upd H b (.lst [])) D (.lst ((bs ++ [b]).map V.ref)) c = H c := fun c h1 h2 => by rw [upd_ne h1, upd_ne h2]
  have atb : upd (upd H b (.lst [])) D (.lst ((bs ++ [b]).map V.ref)) b = some (.lst []) := by rw [upd_ne (Ne.symm nDb), upd_same]
  have atD : upd (upd H b (.lst [])) D (.lst ((bs ++ [b]).map V.ref)) D = some (.lst ((bs ++ [b]).map V.ref)) := upd_same
  have some_ : ∀ a, (a = D ∨ a = b ∨ ∃ o, H a = some o) → ∃ o, upd (upd H b (.lst [])) D (.lst ((bs ++ [b]).map V.ref)) a = some o := fun a q => by
    by_cases q1 : a = D
    · subst q1; exact ⟨_, atD⟩
    · by_cases q2 : a = b
      · subst q2; exact ⟨_, atb⟩
      · rcases q with q | q | ⟨o, q⟩
        · exact absurd q q1
        · exact absurd q q2
        · exact ⟨o, by rw [other a q1 q2]; exact q⟩
  have Mnew : ∀ c, Mo C (ρ.set n (D :: (bs ++ [b]))) c → Mo C ρ c ∨ c = b := fun c m => by
    rcases m with m | m
    · rcases flat_setF e1 m with z | z
      · exact .inl (.inl z)
      · rcases List.mem_cons.mp z with z | z
        · exact .inl (.inl (z ▸ mD))
        · rcases List.mem_append.mp z with z | z
          · exact .inl (.inl (flat_at e1 (List.mem_cons_of_mem _ z)))
          · exact .inr (by simpa using z)
    · exact .inl (.inr m)
  have st : Stp (Mo C ρ) H (Mo C (ρ.set n (D :: (bs ++ [b])))) (upd (upd H b (.lst [])) D (.lst ((bs ++ [b]).map V.ref))) := ⟨keepE fun c o e nm => by
    rw [other c (fun z => nm (z ▸ .inl mD)) (ne_of_none e eb)]; exact e, fun c m => by
    rcases Mnew c m with z | z
    · exact .inl z
    · exact .inr (z ▸ eb)⟩
  have nln : n < ρ.length := (List.getElem?_eq_some_iff.mp e1).1
  have tk : TabKp H (upd (upd H b (.lst [])) D (.lst ((bs ++ [b]).map V.ref))) := by
    refine ⟨fun c ps q => ?_, fun c f q => ?_⟩
    · rw [other c (fun z => by rw [z, hD] at q; cases q) (ne_of_none q eb)]; exact q
    · rw [other c (fun z => by rw [z, hD] at q; cases q) (ne_of_none q eb)]; exact q
  refine ⟨⟨by rw [List.length_set, List.length_set]; exact S.len, ?_, fun a m => ?_, fun k fp o q1 q2 => ?_, fun c o q nw => ?_, fun a m => ?_, fun c m => ?_, fun a m => ?_, fun k fp q => ?_, tk.tabs S.tab⟩, st, fun k fp q => ?_⟩
  · exact flat_setN S.nd e1 nb
  · refine some_ a ?_
    rcases flat_setF e1 m with z | z
    · exact .inr (.inr (S.trk a z))
    · rcases List.mem_cons.mp z with z | z
      · exact .inl z
      · rcases List.mem_append.mp z with z | z
        · exact .inr (.inr (S.trk a (flat_at e1 (List.mem_cons_of_mem _ z))))
        · exact .inr (.inl (by simpa using z))
  · by_cases hk : n = k
    · subst hk
      rw [List.getElem?_set, if_pos rfl] at q1 q2
      rw [if_pos nln] at q1
      cases q1
      split at q2
      · cases q2
        refine ⟨D, bs ++ [b], rfl, atD, by simp [hl], fun i c ds h1 h2 => ?_⟩
        by_cases hi : i < bs.length
        · rw [List.getElem?_append_left hi] at h1
          rw [List.getElem?_append_left (by omega)] at h2
          obtain ⟨vs, h3, r⟩ := w i c ds h1 h2
          have mc : c ∈ ρ.flatten := flat_at e1 (List.mem_cons_of_mem _ (List.mem_of_getElem? h1))
          have ncD : c ≠ D := fun z => by
            have nd1 : (D :: bs).Nodup := by
              have := S.nd
              have sub : List.Sublist (D :: bs) ρ.flatten := List.sublist_flatten_of_mem (List.mem_of_getElem? e1)
              exact this.sublist sub
            exact (List.nodup_cons.mp nd1).1 (z ▸ List.mem_of_getElem? h1)
          exact ⟨vs, by rw [other c ncD (fun z => nb (z ▸ mc))]; exact h3, r.stp st⟩
        · have hi2 : i = bs.length := by
            have := (List.getElem?_eq_some_iff.mp h1).1
            simp at this
            omega
          subst hi2
          rw [List.getElem?_append_right (Nat.le_refl _)] at h1
          rw [hl, List.getElem?_append_right (Nat.le_refl _)] at h2
          simp at h1 h2
          subst h1; subst h2
          exact ⟨[], atb, .nil⟩
      · cases q2
    · rw [List.getElem?_set_ne hk] at q1 q2
      refine ObOk.stp st (fun c m => ?_) (S.obj k fp o q1 q2)
      have mc := flat_at q1 m
      exact other c (fun z => hk (nodup_apart S.nd e1 q1 (z ▸ by simp) (z ▸ m))) (fun z => nb (z ▸ mc))
  · obtain ⟨o', e', kk⟩ := S.frK c o q nw
    have : c ≠ D := fun z => by
      subst z
      rcases S.own c mD with w' | w'
      · exact nw w'
      · rw [q] at w'; cases w'
    exact ⟨o', by rw [other c this (ne_of_none e' eb)]; exact e', kk⟩
  · rcases flat_setF e1 m with z | z
    · exact S.own a z
    · rcases List.mem_cons.mp z with z | z
      · exact S.own a (z ▸ mD)
      · rcases List.mem_append.mp z with z | z
        · exact S.own a (flat_at e1 (List.mem_cons_of_mem _ z))
        · have : a = b := by simpa using z
          subst this
          by_cases hw : a ∈ C.W.flatten
          · exact .inl hw
          · refine .inr ?_
            cases q : C.H0 a with
            | none => rfl
            | some u =>
              obtain ⟨u', q', _⟩ := S.frK a u q hw
              rw [q'] at eb; cases eb
  · obtain ⟨n1, o, e⟩ := S.bar c m
    refine ⟨fun z => ?_, ?_⟩
    · rcases Mnew c (.inl z) with y | y
      · rcases y with y | y
        · exact n1 y
        · rcases flat_setF e1 z with x | x
          · exact n1 x
          · rcases List.mem_cons.mp x with x | x
            · exact n1 (x ▸ mD)
            · rcases List.mem_append.mp x with x | x
              · exact n1 (flat_at e1 (List.mem_cons_of_mem _ x))
              · exact nbar ((show c = b by simpa using x) ▸ m)
      · exact nbar (y ▸ m)
    · exact ⟨o, by rw [other c (fun z => n1 (z ▸ mD)) (ne_of_none e eb)]; exact e⟩
  · exact some_ a (.inr (.inr (S.wtr a m)))
  · have e' := S.pre k fp q
    have := (List.getElem?_eq_some_iff.mp q).1
    rw [List.getElem?_set_ne (by omega)]
    exact e'
  · by_cases hk : n = k
    · subst hk
      rw [e1] at q
      cases q
      exact ⟨D :: (bs ++ [b]), by rw [List.getElem?_set, if_pos rfl, if_pos nln], ⟨[b], rfl⟩⟩
    · exact ⟨fp, by rw [List.getElem?_set_ne hk]; exact q, pfx_rfl⟩
/-- an inner list is changed -/
theorem SimH.writeI (S : SimH K C ρ h H) {n i : Nat} {fp : List Addr} {a : Addr} {dss : List (List PyData)} {vs : List V} {ds : List PyData} (e1 : ρ[n]? = some fp) (e2 : fp[i + 1]? = some a) (e3 : h[n]? = some (.lls dss)) (hi : i < dss.length)
    (r : RpAll K (upd H a (.lst vs)) (Mo C ρ) vs ds) : SimH K C ρ (h.set n (.lls (dss.set i ds))) (upd H a (.lst vs)) ∧ Ex C ρ H ρ (upd H a (.lst vs)) := by
  obtain ⟨D, bs, rfl, hD, hl, w⟩ := S.obj n fp _ e1 e3
  have e2' : bs[i]? = some a := by simpa using e2
  have mem : a ∈ D :: bs := List.mem_cons_of_mem _ (List.mem_of_getElem? e2')
  have ma : a ∈ ρ.flatten := flat_at e1 mem
  have nd1 : (D :: bs).Nodup := S.nd.sublist (List.sublist_flatten_of_mem (List.mem_of_getElem? e1))
  have naD : a ≠ D := fun z => (List.nodup_cons.mp nd1).1 (z ▸ List.mem_of_getElem? e2')
  have st : Stp (Mo C ρ) H (Mo C ρ) (upd H a (.lst vs)) := ⟨keepE fun b u q nm => by
    have : b ≠ a := fun z => nm (z ▸ .inl ma)
    rw [upd_ne this]; exact q, fun _ m => .inl m⟩
  obtain ⟨vs0, ha0, _⟩ := w i a dss[i] e2' (List.getElem?_eq_getElem hi)
  have tk : TabKp H (upd H a (.lst vs)) := TabKp.put ha0 nte_lst
  refine ⟨⟨by rw [List.length_set]; exact S.len, S.nd, fun b m => ?_, fun k fq q f1 f2 => ?_, fun b u q nw => ?_, S.own, fun b m => ?_, fun b m => ?_, S.pre, tk.tabs S.tab⟩, ⟨st, fun _ fp q => ⟨fp, q, pfx_rfl⟩⟩⟩
  · by_cases hb : b = a
    · subst hb; exact ⟨_, upd_same⟩
    · obtain ⟨u, q⟩ := S.trk b m
      exact ⟨u, by rw [upd_ne hb]; exact q⟩
  · by_cases hk : n = k
    · subst hk
      rw [e1] at f1; cases f1
      rw [List.getElem?_set, if_pos rfl] at f2
      split at f2
      · cases f2
        refine ⟨D, bs, rfl, by rw [upd_ne (Ne.symm naD)]; exact hD, by rw [List.length_set]; exact hl, fun j c es g1 g2 => ?_⟩
        by_cases hj : i = j
        · subst hj
          rw [e2'] at g1
          cases g1
          rw [List.getElem?_set, if_pos rfl, if_pos hi] at g2
          cases g2
          exact ⟨vs, upd_same, r⟩
        · rw [List.getElem?_set_ne hj] at g2
          obtain ⟨ws, g3, g4⟩ := w j c es g1 g2
          have : c ≠ a := fun z => by
            subst z
            have hbs := (List.nodup_cons.mp nd1).2
            have h1 := (List.getElem?_eq_some_iff.mp e2')
            have h2 := (List.getElem?_eq_some_iff.mp g1)
            obtain ⟨l1, q1⟩ := h1
            obtain ⟨l2, q2⟩ := h2
            exact hj ((List.getElem_inj hbs).mp (q1.trans q2.symm))
          exact ⟨ws, by rw [upd_ne this]; exact g3, g4.stp st⟩
      · cases f2
    · rw [List.getElem?_set_ne hk] at f2
      refine ObOk.stp st (fun b m => upd_ne fun z => ?_) (S.obj k fq q f1 f2)
      subst z
      exact hk (nodup_apart S.nd e1 f1 mem m)
  · obtain ⟨u', q', kk⟩ := S.frK b u q nw
    have : b ≠ a := fun z => by
      subst z
      rcases S.own b ma with w' | w'
      · exact nw w'
      · rw [q] at w'; cases w'
    exact ⟨u', by rw [upd_ne this]; exact q', kk⟩
  · obtain ⟨n, u, q⟩ := S.bar b m
    have : b ≠ a := fun z => n (z ▸ ma)
    exact ⟨n, u, by rw [upd_ne this]; exact q⟩
  · by_cases hb : b = a
    · subst hb; exact ⟨_, upd_same⟩
    · obtain ⟨u, q⟩ := S.wtr b m
      exact ⟨u, by rw [upd_ne hb]; exact q⟩
end
/-! ### x[i], x a list of lists of the def's own -/
def innAt (s t : Sl) (h : Hs) : Option Sl := match s, t with
  | .loc n, .val (.int i) => match h[n]? with
    | some (.lls dss) => (ixN dss.length i).map fun j => .inn n j
    | _ => none
  | _, _ => none
def eIxI (f g : Ev) : Ev := fun env h => (f env h).bind fun s h => (g env h).bind fun t h => match innAt s t h with
  | some u => .ok u h
  | none => .bad
section
variable {X : Cx} {C : Fc} {Wx : WX} {a b : Expr} {f1 f2 : Ev} {pos : Pos}
theorem fe_ixI (ha : FE X C Wx a f1) (hb : FE X C Wx b f2) (hs : PlainIx b) : FE X C Wx (.Subscript a b pos) (eIxI f1 f2) := PE.imp (pe_ix ix_seq ha hb hs) fun σ H Q p => by
  refine rd.bind (f := f1) (g := fun s env h => (f2 env h).bind fun t h => match innAt s t h with
    | some u => (.ok u h : Rz Sl)
    | none => .bad) p fun ρ1 env h1 s x H1 S1 E1 r1 P1 => ?_
  refine rd.of (env := env) (h := h1) S1 E1 (Po.bind (r := f2 env h1) P1 fun ρ2 h2 t y H2 ef x2 S2 r2 P2 => ?_)
  clear ef
  cases q : innAt s t h2 with
  | none => rw [q] at P2; exact P2.elim
  | some u =>
    rw [q] at P2
    unfold innAt at q
    split at q
    · rename_i n i
      split at q
      · rename_i dss e3
        cases z : ixN dss.length i with
        | none => rw [z] at q; cases q
        | some j =>
          rw [z] at q
          cases q
          obtain ⟨fp, c, e1, e2, rfl⟩ := SlV.ex x2 r1
          cases (show Rp X.K H2 (Mo C ρ2) y (.int i) from r2)
          obtain ⟨D, bs, rfl, hD, hl, w⟩ := S2.obj n fp _ e1 e3
          have ec : D = c := by simpa using e2
          subst ec
          have hj : j < bs.length := by
            unfold ixN at z
            split at z
            · split at z
              · cases z; omega
              · cases z
            · split at z
              · cases z; omega
              · cases z
          have ez : atI (bs.map V.ref) i = some (.ref bs[j]) := by
            unfold atI
            rw [List.length_map, hl, z]
            show (bs.map V.ref)[j]? = _
            rw [List.getElem?_map, List.getElem?_eq_getElem hj]
            rfl
          exact .inl ⟨D, bs.map V.ref, i, .ref bs[j], rfl, rfl, SqL.of hD, ez, P2 ρ2 _ H2 (Ex.refl _ _ _) S2 ⟨_, bs[j], e1, by simp [hj], rfl⟩⟩
      · cases q
    · cases q
/-- x[i].append(e) -/
def mAppI : GM := fun s ss h => match s, ss with
  | .inn n i, [.val d] => match h[n]? with
    | some (.lls dss) => match dss[i]? with
      | some ds => if ds.length < 16777216 then some (.none, h.set n (.lls (dss.set i (ds ++ [d])))) else none
      | none => none
    | _ => none
  | _, _ => none
theorem m_appI : MtR X "list.append" (rdM X.K C mAppI) := MtR.imp mt_append fun x xs H Q ⟨ρ, h, s, ss, d, h', S, r1, r2, e, k⟩ => by
  unfold mAppI at e
  split at e
  · rename_i n i d0
    split at e
    · rename_i dss e3
      split at e
      · rename_i ds e4
        split at e
        · rename_i hl
          cases e
          obtain ⟨fp, a, e1, e2, rfl⟩ := r1
          obtain ⟨y, rfl, ry⟩ := SlVs.one r2
          obtain ⟨vs, q, ra⟩ := S.inn e1 e2 (show inn? h n i = some ds by unfold inn?; rw [e3]; exact e4)
          have ma : a ∈ ρ.flatten := flat_at e1 (List.mem_of_getElem? e2)
          have st : Stp (Mo C ρ) H (Mo C ρ) (upd H a (.lst (vs ++ [y]))) := ⟨keepE fun b u z nm => by
            have : b ≠ a := fun w => nm (w ▸ .inl ma)
            rw [upd_ne this]; exact z, fun _ mm => .inl mm⟩
          have W := S.writeI (vs := vs ++ [y]) (ds := ds ++ [d0]) e1 e2 e3 (List.getElem?_eq_some_iff.mp e4).1 ((ra.stp st).append (.cons (Rp.stp st ry) .nil))
          exact ⟨a, vs, y, rfl, rfl, q, by rw [ra.length, sizeLine_eq]; exact hl, k .non _ W.2 W.1 .non⟩
        · cases e
      · cases e
    · cases e
  · cases e
/-! ### [[] for x in ..] -/
def eCompE (src : En → Hs → Rz (List PyData)) : Ev := fun env h => (src env h).bind fun ds h => if ds.length ≤ 16777216 then .ok (.loc h.length) (h ++ [.lls (List.replicate ds.length [])]) else .bad
theorem compE_read {K : PySem.W.Frag} {mg : Str → Option Value} {src : En → Hs → Rz (List PyData)} {i : Nat} {vs : List Nat} {σ : St} {H : Hp} {Q : VK} (hi : i ∈ vs) (p : rd K mg C Wx (relE K C) (eCompE src) σ H Q) : tLc (rd K mg C Wx (relI K C) src) (gName i) (fun _ H Q => Q true H) (tLst tNil) vs σ H Q := by
  refine rd.bind (f := src) (g := fun ds env h => if ds.length ≤ 16777216 then (.ok (.loc h.length) (h ++ [.lls (List.replicate ds.length [])]) : Rz Sl) else .bad) p fun ρ1 env1 h1 ds J H1 S1 E1 G P1 => ?_
  intro D hD
  split at P1
  · rename_i hl
    have S0 : SimH K C (ρ1 ++ [[D]]) (h1 ++ [.lls []]) (upd H1 D (.lst [])) := S1.push hD ⟨D, [], rfl, upd_same, rfl, fun i b ds e _ => by simp at e⟩
    refine ⟨fun j m H2 => m = ds.length - j ∧ j ≤ ds.length ∧ ∃ bs : List Addr, bs.length = j ∧ SimH K C (ρ1 ++ [D :: bs]) (h1 ++ [.lls (List.replicate j [])]) H2 ∧ Ex C ρ1 H1 (ρ1 ++ [D :: bs]) H2,
      ⟨ds.length, by omega, Nat.zero_le _, [], rfl, S0, Ex.push hD⟩, fun j m H2 hW => ?_⟩
    obtain ⟨hm, hj, bs, hb, S2, x2⟩ := hW
    have st2 := x2.stp
    by_cases q : j < ds.length
    · have ed : ds[j]? = some ds[j] := List.getElem?_eq_getElem q
      refine .inr ⟨G.go _ H2 j ds[j] st2 ed, fun H' => j + 1 ≤ ds.length ∧ ∃ bs : List Addr, bs.length = j + 1 ∧ SimH K C (ρ1 ++ [D :: bs]) (h1 ++ [.lls (List.replicate (j + 1) [])]) H' ∧ Ex C ρ1 H1 (ρ1 ++ [D :: bs]) H', fun H' hN => ⟨ds.length - (j + 1), by omega, rfl, hN.1, hN.2⟩, fun x H' y => ?_⟩
      obtain ⟨S3, x3, r3⟩ := G.step st2 S2 ed y
      refine ⟨(wipe_set hi).trans (wipe_wipe σ vs), ?_⟩
      show (if true = true then _ else _)
      rw [if_pos rfl]
      refine ⟨by show 0 ≤ sizeLine; exact Nat.zero_le _, fun b eb => ?_⟩
      have at1 : (ρ1 ++ [D :: bs])[ρ1.length]? = some (D :: bs) := by simp
      have at2 : (h1 ++ [Ob.lls (List.replicate j [])])[ρ1.length]? = some (.lls (List.replicate j [])) := by rw [S1.len]; simp
      obtain ⟨D', bs', efp, hD', hl', w'⟩ := S3.obj _ _ _ at1 at2
      cases efp
      have hnb : D ≠ b := ne_of_none hD' eb
      have hW : C.W.length ≤ ρ1.length := by rw [S1.len]; exact S1.wlen
      obtain ⟨S4, x4⟩ := S3.grow hW at1 at2 eb
      have e1 : (ρ1 ++ [D :: bs]).set ρ1.length (D :: (bs ++ [b])) = ρ1 ++ [D :: (bs ++ [b])] := by simp
      have e2 : (h1 ++ [Ob.lls (List.replicate j [])]).set ρ1.length (.lls (List.replicate j [] ++ [[]])) = h1 ++ [.lls (List.replicate (j + 1) [])] := by rw [S1.len, ← List.replicate_succ']; simp
      rw [e1] at S4 x4
      rw [e2] at S4
      refine ⟨bs.map V.ref, by rw [upd_ne hnb]; exact hD', by rw [List.length_map, sizeLine_eq]; omega, by omega, bs ++ [b], by simp [hb], ?_, ?_⟩
      · have e3 : (bs.map V.ref) ++ [V.ref b] = (bs ++ [b]).map V.ref := by simp
        rw [e3]
        exact S4
      · have e3 : (bs.map V.ref) ++ [V.ref b] = (bs ++ [b]).map V.ref := by simp
        rw [e3]
        exact (x2.trans x3).trans x4
    · have ej : j = ds.length := by omega
      subst ej
      refine .inl ⟨G.stop _ H2 ds.length st2 (Nat.le_refl _), P1 _ (.ref D) H2 x2 S2 ⟨D :: bs, D, by rw [← S1.len]; simp, rfl, rfl⟩⟩
  · exact P1.elim
theorem fe_compE {tg iter : Expr} {scope : Scope} {own : List (Str × Nat)} {src : En → Hs → Rz (List PyData)} {i : Nat} {p2 pos : Pos} (hc : X.calm = true) (hN : X.N.Nodup) (hi : FI X C Wx tg iter src) (ok : BlkOk X.N X.env.scope scope own)
    (hg : ∀ (s : Shared) (H : Hp) (Cc : Addr) (cl : List (Str × Addr)) (fp : List Addr), FG (X.blk s H scope (compEnvC scope cl Cc X.env) fp) tg (.nm i))
    (hsl : i ∈ own.map (·.2) := by decide) (hs : ∀ x, foldedSetIterable iter X.env x = pure x := by intro _; rfl) :
    FE X C Wx (.ListComp (.List [] p2) [⟨tg, iter, [], 0⟩] scope pos) (eCompE src) :=
  PE.imp (pe_lc hc hN hi ok hg (fun s H Cc cl fp => pts_nil) (fun s H Cc cl fp => pe_lst pa_nil) hs) fun σ H Q p => compE_read hsl p
theorem fs_setLcE {tg iter : Expr} {scope : Scope} {own : List (Str × Nat)} {src : En → Hs → Rz (List PyData)} {i j : Nat} {y : Str} {py spos p2 pos : Pos} (hc : X.calm = true) (hN : X.N.Nodup) (hy : X.N[j]? = some y) (hyl : X.env.scope.names.lookup y = some .local)
    (hsw : swapsWith (.ListComp (.List [] p2) [⟨tg, iter, [], 0⟩] scope pos) (some (.Name y py)) spos.line X.env = pure true) (hi : FI X C Wx tg iter src) (ok : BlkOk X.N X.env.scope scope own)
    (hg : ∀ (s : Shared) (H : Hp) (Cc : Addr) (cl : List (Str × Addr)) (fp : List Addr), FG (X.blk s H scope (compEnvC scope cl Cc X.env) fp) tg (.nm i))
    (hsl : i ∈ own.map (·.2) := by decide) (hs : ∀ x, foldedSetIterable iter X.env x = pure x := by intro _; rfl) :
    FS X C Wx (.Assign [.Name y py] (.ListComp (.List [] p2) [⟨tg, iter, [], 0⟩] scope pos) spos) (sSet j (eCompE src)) :=
  PS.imp (ps_setLc hc hN hy hyl hsw hi ok hg (fun s H Cc cl fp => pts_nil) (fun s H Cc cl fp => pe_lst pa_nil) hs) fun D σ H p =>
    compE_read hsl (rdS.bind (r1 := relE X.K C) (R := fun x H1 => gName j x σ H1 D.nx) (f := eCompE src) (g := fun s env h => .next (env.set j (some s)) h) p fun ρ1 env h1 a b H1 S1 E1 r1 P1 => P1 ρ1 _ H1 (Stp.refl _ _) S1 (E1.set r1 j))
end
/-- a comprehension within one -/
def relabS (sc o : Scope) : Scope := { sc with names := sc.names.map fun (n, k) => if (k == .free && o.kind == .function && o.names.lookup n == some .cell) then (n, .cell) else (n, k) }
theorem blkOk_nest {X : Cx} {N : List Str} {o : Scope} {s : Shared} {H : Hp} {sc : Scope} {cl : List (Str × Addr)} {Cc : Addr} {fp : List Addr} {scope : Scope} {own : List (Str × Nat)} (hN : X.N = N) (ho : X.env.scope = o) (h : blkC N (relabS sc o) scope own = true) :
    BlkOk (X.blk s H sc (compEnvC sc cl Cc X.env) fp).N (X.blk s H sc (compEnvC sc cl Cc X.env) fp).env.scope scope own := by
  subst hN ho
  exact (show BlkOk X.N (relabS sc X.env.scope) scope own from blkOk_by h)
end FL

namespace FL
open PySem PySem.Spec PyProof.Rows L2
/-! ### reckoning: what a statement leaves, or hands back -/
inductive Out (r : Fl) (N : En → Hs → Prop) (R : Sl → Hs → Prop) : Prop
  | nx (e : En) (h : Hs) (q : r = .next e h) (p : N e h) : Out r N R
  | rt (s : Sl) (h : Hs) (q : r = .ret s h) (p : R s h) : Out r N R
theorem Out.next {e : En} {h : Hs} {N : En → Hs → Prop} {R : Sl → Hs → Prop} {r : Fl} (q : r = .next e h) (p : N e h) : Out r N R := .nx e h q p
theorem Out.ret {s : Sl} {h : Hs} {N : En → Hs → Prop} {R : Sl → Hs → Prop} {r : Fl} (q : r = .ret s h) (p : R s h) : Out r N R := .rt s h q p
theorem Out.of_nx {r : Fl} {P : En → Hs → Prop} {R : Sl → Hs → Prop} (x : Nx r P) : Out r P R := by
  obtain ⟨e, h, q, p⟩ := x
  exact .nx e h q p
theorem Out.mono {r : Fl} {N N' : En → Hs → Prop} {R R' : Sl → Hs → Prop} (x : Out r N R) (i : ∀ e h, N e h → N' e h) (j : ∀ s h, R s h → R' s h) : Out r N' R' := by
  cases x with
  | nx e h q p => exact .nx e h q (i e h p)
  | rt s h q p => exact .rt s h q (j s h p)
theorem Out.seq {p q : Sv} {env : En} {h : Hs} {A B : En → Hs → Prop} {R : Sl → Hs → Prop} (x : Out (p env h) A R) (y : ∀ e h, A e h → Out (q e h) B R) : Out (sSeq p q env h) B R := by
  rw [v_seq]
  cases x with
  | nx e h1 z a => rw [z, v_seqN]; exact y e h1 a
  | rt s h1 z a => rw [z]; exact .rt s h1 rfl a
theorem Out.loopR {tg : Tg} {p : Sv} {n : Nat} {I : List PyData → En → Hs → Prop} {R : Sl → Hs → Prop} : ∀ {ds : List PyData}, (∀ d rest env h, I (d :: rest) env h → ∃ e1, tg.put d env = some e1 ∧ Out (p e1 h) (fun e h => I rest (cutE n e) (h.take n)) R) → ∀ {env : En} {h : Hs}, I ds env h → Out (loopF tg p n ds env h) (I []) R
  | [], _, env, h, i => .nx env h rfl i
  | d :: ds, st, env, h, i => by
    obtain ⟨e1, q1, x⟩ := st d ds env h i
    unfold loopF
    rw [q1]
    dsimp only
    cases x with
    | nx e h1 z a => rw [z]; exact Out.loopR st a
    | rt s h1 z a => rw [z]; exact .rt s h1 rfl a
theorem Out.forR {src : En → Hs → Rz (List PyData)} {tg : Tg} {p : Sv} {ds : List PyData} {env : En} {h h1 : Hs} {I : List PyData → En → Hs → Prop} {R : Sl → Hs → Prop} (q : src env h = .ok ds h1) (i : I ds env h1)
    (st : ∀ d rest env h, I (d :: rest) env h → ∃ e1, tg.put d env = some e1 ∧ Out (p e1 h) (fun e h => I rest (cutE h1.length e) (h.take h1.length)) R) : Out (sFor src tg p env h) (I []) R := by
  rw [v_for, q, v_fl]
  exact Out.loopR st i
theorem Out.loopW {c : Tv} {p : Sv} {n : Nat} {I : Nat → En → Hs → Prop} {F : En → Hs → Prop} {R : Sl → Hs → Prop} (st : ∀ m env h, I m env h → (c env h = .ok false h ∧ F env h) ∨ (c env h = .ok true h ∧ ∃ m', m' < m ∧ Out (p env h) (fun e h => I m' (cutE n e) (h.take n)) R)) :
    ∀ (k m : Nat) (env : En) (h : Hs), m < k → I m env h → Out (loopW c p n k env h) F R
  | 0, m, _, _, hk, _ => absurd hk (Nat.not_lt_zero _)
  | k + 1, m, env, h, hk, i => by
    unfold FL.loopW
    rcases st m env h i with ⟨q, f⟩ | ⟨q, m', hm, x⟩
    · rw [q, v_fl, if_neg Bool.false_ne_true]
      exact .nx env h rfl f
    · rw [q, v_fl, if_pos rfl]
      cases x with
      | nx e h1 z a => rw [z]; exact Out.loopW st k m' _ _ (by omega) a
      | rt s h1 z a => rw [z]; exact .rt s h1 rfl a
theorem Out.while_ {c : Tv} {p : Sv} {k : Nat} {I : Nat → En → Hs → Prop} {F : En → Hs → Prop} {R : Sl → Hs → Prop} {env : En} {h : Hs} (m : Nat) (hk : m < k) (i : I m env h)
    (st : ∀ m env h', I m env h' → (c env h' = .ok false h' ∧ F env h') ∨ (c env h' = .ok true h' ∧ ∃ m', m' < m ∧ Out (p env h') (fun e h' => I m' (cutE h.length e) (h'.take h.length)) R)) : Out (sWhile k c p env h) F R := Out.loopW st k m env h hk i
theorem Nx.of_out {r : Fl} {P : En → Hs → Prop} (x : Out r P fun _ _ => False) : Nx r P := by
  cases x with
  | nx e h q p => exact ⟨e, h, q, p⟩
  | rt s h q p => exact p.elim
section
variable {env : En} {h : Hs} {s t : Sl}
def par3? (i j l : Nat) (ss : List Sl) (env : En) (h : Hs) : Fl := match ss with
  | [s, t, u] => .next (((env.set i (some s)).set j (some t)).set l (some u)) h
  | _ => .bad
@[simp] theorem v_par3a {i j l : Nat} {u : Sl} : par3? i j l [s, t, u] env h = .next (((env.set i (some s)).set j (some t)).set l (some u)) h := id rfl
@[simp] theorem v_par3 {i j l : Nat} {a : Av} : sPar3 i j l a env h = (a env h).fl env fun ss h => par3? i j l ss env h := by unfold sPar3; congr
def listN? (ss : List Sl) (h : Hs) : Rz Sl := match ss with
  | [s] => match items s h with
    | some ds => .ok (.loc h.length) (h ++ [.lst ds])
    | none => .bad
  | _ => .bad
@[simp] theorem v_listN {a : Av} : eListN a env h = (a env h).bind fun ss h => listN? ss h := by unfold eListN; congr
theorem v_listN1 {ds : List PyData} (e : items s h = some ds) : listN? [s] h = .ok (.loc h.length) (h ++ [.lst ds]) := by unfold listN?; dsimp only; rw [e]
theorem v_pop0 {n : Nat} {d : PyData} {ds : List PyData} (e : h[n]? = some (.lst (d :: ds))) : mPopAt (.loc n) [.val (.int 0)] h = some (d, h.set n (.lst ds)) := by
  show (match h[n]? with
    | some (.lst ds) => if -(2 ^ 63) ≤ (0 : Int) ∧ (0 : Int) < 2 ^ 63 then (match seqIndex? 0 ds.length with
      | some k => (ds[k]?).map fun d => (d, h.set n (.lst (ds.eraseIdx k)))
      | none => none) else none
    | _ => none) = _
  rw [e]
  dsimp only
  rw [if_pos (by decide)]
  have : seqIndex? 0 (d :: ds).length = some 0 := by simp [seqIndex?]
  rw [this]
  rfl
end
/-- a comprehension with a test -/
theorem comp_flt {α : Type} {tg : Tg} {c : Tv} {f : Ev} {env : En} {h : Hs} {E : α → En} {dd : α → PyData} {w : α → PyData} {P : α → Bool} : ∀ (xs : List α) (acc : List PyData), (∀ z ∈ xs, tg.put (dd z) env = some (E z)) → (∀ z ∈ xs, c (E z) h = .ok (P z) h) → (∀ z ∈ xs, P z = true → f (E z) h = .ok (.val (w z)) h) → acc.length + xs.length ≤ 16777216 →
    compL tg c f env (xs.map dd) acc h = .ok (acc ++ (xs.filter P).map w) h
  | [], acc, _, _, _, _ => by simp [compL]
  | z :: xs, acc, hp, hc, hf, hl => by
    have hl' : acc.length + xs.length + 1 ≤ 16777216 := hl
    rw [List.map_cons]
    unfold compL
    rw [hp z List.mem_cons_self]
    dsimp only
    rw [hc z List.mem_cons_self]
    cases q : P z with
    | true =>
      dsimp only
      rw [hf z List.mem_cons_self q]
      dsimp only
      rw [if_pos (by omega), comp_flt xs (acc ++ [w z]) (fun y m => hp y (List.mem_cons_of_mem _ m)) (fun y m => hc y (List.mem_cons_of_mem _ m)) (fun y m => hf y (List.mem_cons_of_mem _ m)) (by rw [List.length_append, List.length_singleton]; omega)]
      simp [q]
    | false =>
      dsimp only
      rw [comp_flt xs acc (fun y m => hp y (List.mem_cons_of_mem _ m)) (fun y m => hc y (List.mem_cons_of_mem _ m)) (fun y m => hf y (List.mem_cons_of_mem _ m)) (by omega)]
      simp [q]
theorem enum_zip {α : Type} (dd : α → PyData) : ∀ (xs : List α) (j : Nat), enumD j (xs.map dd) = (xs.zipIdx j).map fun p => .tuple [.int (p.2 : Nat), dd p.1]
  | [], _ => rfl
  | x :: xs, j => by rw [List.map_cons, enum_cons, enum_zip dd xs (j + 1)]; rfl
theorem run_eq {fr : Bool} {io : List Bool} {nl : Nat} {p : Sv} {ds : List PyData} {os : Hs} {z : Rz PyData} (x : Out (p (mkEnv io ds 0 ++ List.replicate nl none) os) (fun _ h => Rz.ok .none (h.take os.length) = z) (fun s h => outD fr os.length s h = z)) : runFn fr io nl p ds os = z := by
  rw [v_run]
  cases x with
  | nx e h q p => rw [q]; exact p
  | rt s h q p => rw [q]; exact p
/-- a def that may end otherwise -/
theorem run_ex {fr : Bool} {io : List Bool} {nl : Nat} {p : Sv} {ds : List PyData} {os : Hs} {P : PyData → Hs → Prop} (x : Out (p (mkEnv io ds 0 ++ List.replicate nl none) os) (fun _ h => P .none (h.take os.length)) (fun s h => ∃ d h', outD fr os.length s h = .ok d h' ∧ P d h')) : ∃ d h', runFn fr io nl p ds os = .ok d h' ∧ P d h' := by
  rw [v_run]
  cases x with
  | nx e h q p => rw [q]; exact ⟨_, _, rfl, p⟩
  | rt s h q p => rw [q]; exact p
theorem Out.seqEq {p q : Sv} {env e1 : En} {h h1 : Hs} {N : En → Hs → Prop} {R : Sl → Hs → Prop} (e : p env h = .next e1 h1) (y : Out (q e1 h1) N R) : Out (sSeq p q env h) N R := by
  rw [v_seq, e, v_seqN]
  exact y
end FL

namespace FL
open PySem PySem.Spec PyProof.Rows L2
section
variable {prog : Program} {w : World} {A : Around} {E : Value → Shared → Prop} {s : Shared} {a : Int} {t : Tok}
/-! ### repr of lists of great whole numbers -/
theorem call_int_reprN {Q : Value → Shared → Prop} (hn : s.heap.NoDigits) (hlt : a.natAbs < 10 ^ 4300) (h1 : Q (.str (toString a) s.toks) { s with toks := s.toks + 1 }) :
    wpAny (model prog w) A (call (.builtin "int.__repr__") [.int a t]) Q E s := by
  refine wpAny_call_entry F.slot_int_repr (typeIs_int s a t) F.entry_int_repr ?_ (F.args_int_repr_1 _)
  unfold Builtin.«int.__repr__»
  show wpAny _ _ (do let r ← Builtin.overDigitLimit? a; _) _ _ s
  refine wpAny_bind (overDigitLimit_any hn (fun hlt => ?_) (fun hge => absurd hlt (Nat.not_lt.mpr hge)))
  exact wpAny_bind (wpAny_mkStr (wpAny_pure ⟨_, rfl, h1⟩) (int_text_fits10 hlt))
theorem reprK_big {as : List Addr} {h₀ : Heap} {d : Nat} (hn : h₀.NoDigits) (hlt : a.natAbs < 10 ^ 4300) : ReprK prog w as h₀ d (.int a t) (toString a) := by
  intro base hb A g E s Q hg hcl hu hk0 hQ
  rw [pyReprUnder_leaf (v := .int a t) (by omega) (fun _ e => nomatch e)]
  unfold pyRepr
  refine wpAny_bind ?_
  unfold pyReprObj
  try (have hv : [Value.int a t].any Value.onHeap = false := rfl; simp only [cRoomFor, hv, Bool.false_eq_true, if_false, pure_bind])
  refine wpAny_bind (wpAny_specialOf (name := Str.ofString "__repr__") (typeIs_int s a t) F.slot_int_repr.toG.lookup ?_)
  refine wpAny_bind (m := callSpecialIfBound? (.int a t) (Str.ofString "__repr__")) (wpAny_callSpecialIfBound?_slot (name := Str.ofString "__repr__") (typeIs_int s a t) F.slot_int_repr
    (call_int_reprN (hn.keeps hk0) hlt ?_))
  exact wpAny_bind (wpAny_isInstance (T := "str") (b := true) rfl isSubtype_str_str (wpAny_pure (wpAny_pure (hQ s.heap _ fun _ _ e => e))))
theorem reprAll_big {h₀ : Heap} (hn : h₀.NoDigits) : ∀ {ds : List PyData} {is : List Int} {vs : List Value} {as : List Addr}, ints? ds = some is → ReadsAll h₀ vs ds as → (∀ i ∈ is, i.natAbs < 10 ^ 4300) → ReprAllK prog w [] h₀ 0 vs (PyData.shownAll ds)
  | [], is, _, _, _, .nil, _ => by simp only [PyData.shownAll]; exact .nil
  | .int b :: r, is, _, _, e, .cons q t, hb => by
    have e' : (ints? r).map (b :: ·) = some is := e
    obtain ⟨js, ej, rfl⟩ := Option.map_eq_some_iff.mp e'
    cases q
    simp only [PyData.shownAll, PyData.shown]
    exact .cons (reprK_big hn (hb b List.mem_cons_self)) (reprAll_big hn ej t fun i m => hb i (List.mem_cons_of_mem _ m))
theorem ints_nd : ∀ {ds : List PyData} {is : List Int}, ints? ds = some is → PyData.hasDictAll ds = false
  | [], _, _ => by simp only [PyData.hasDictAll]
  | .int b :: r, is, e => by
    have e' : (ints? r).map (b :: ·) = some is := e
    obtain ⟨js, ej, rfl⟩ := Option.map_eq_some_iff.mp e'
    simp only [PyData.hasDictAll, PyData.hasDict, ints_nd ej, Bool.or_self]
end
def gReprB : GL := fun ss h => match ss with
  | [s] => match dat s h with
    | some (.list ds) => match ints? ds with
      | some is => if is.all (fun i => decide (i.natAbs < 10 ^ 4300)) && decide ((PyData.list ds).shown.length ≤ 16777216) then some (.str (PyData.list ds).shown) else none
      | none => none
    | _ => none
  | _ => none
section
variable {X : Cx} {C : Fc}
theorem c_reprB (hn : X.base.NoDigits) (hg : X.A.guards = some []) (hu : X.A.units + 65 < cLine) : CallR X (.builtin "repr") (rdC X.K C gReprB) := fun pins s σ H xs us Q I r ⟨ρ, h, ss, d, S, r1, e, k⟩ => by
  unfold gReprB at e
  split at e
  · rename_i t
    split at e
    · rename_i ds ez
      split at e
      · rename_i is ei
        split at e
        · rename_i c
          rw [Bool.and_eq_true] at c
          obtain ⟨c1, c2⟩ := c
          cases e
          obtain ⟨y, rfl, ry⟩ := SlVs.one r1
          obtain ⟨u, rfl, ru⟩ := Vals.one r
          have nd : (PyData.list ds).hasDict = false := by simp only [PyData.hasDict]; exact ints_nd ei
          have hd := dat_rel S ry ez nd
          have hz : (PyData.list ds).shown.length ≤ sizeLine := by rw [sizeLine_eq]; exact of_decide_eq_true c2
          have hz' : (listText (PyData.shownAll ds)).length ≤ sizeLine := by simpa only [PyData.shown] using hz
          obtain ⟨as, rr⟩ := Dp.reads I _ y _ hd ru
          have hN : s.heap.NoDigits := hn.keeps I.bk
          have hb : ∀ i ∈ is, i.natAbs < 10 ^ 4300 := fun i m => of_decide_eq_true (List.all_eq_true.mp c1 i m)
          have fin : ∀ (h' : Heap) (u : Tok) (tk : Nat), (∀ b o, s.heap.get? b = some o → h'.get? b = some o) → EP X pins σ Q (.str (PyData.list ds).shown u) { s with heap := h', toks := tk } := fun h' t tk hk => ⟨.str (PyData.list ds).shown, H, I.kept (t' := tk) hk, ⟨_, rfl⟩, k _ H (Ex.refl _ _ _) S (.str _)⟩
          cases rr with
          | list h1 h2 h3 h4 =>
            rename_i a o vs n bs₀
            have hk := reprAll_big (prog := X.prog) (w := X.w) hN ei h4 hb
            simp only [PyData.shown] at fin
            refine call_repr_slot (by omega) ⟨o, h1, h2⟩ F.slot_list_repr.toG ?_
            obtain ⟨l⟩ := vs
            cases l with
            | nil =>
              have h4' : ReadsAll s.heap [] ds _ := h4
              cases h4'
              simp only [PyData.shownAll, listText_nil] at fin
              exact call_list_repr_empty ⟨o, h1, h2⟩ h1 h3 ⟨_, _, rfl, fin s.heap _ _ fun _ _ e => e⟩
            | cons x l =>
              exact call_list_reprK h1 h2 h3 (List.not_mem_nil) (by simpa using hk.length_eq) (fun i y e => hk.item i y (by simpa using e)) hg (fun b _ => Clear.nil b) (by show X.A.units + 1 + (0 + 1) < cLine; omega) (fun _ _ e => e) (fun h' u tk hk => ⟨_, _, rfl, fin h' u tk hk⟩) hz'
        · cases e
      · cases e
    · cases e
  · cases e
theorem v_reprB {s : Sl} {h : Hs} {ds : List PyData} {is : List Int} (e : dat s h = some (.list ds)) (ei : ints? ds = some is) (hb : ∀ i ∈ is, i.natAbs < 10 ^ 4300) (hl : (PyData.list ds).shown.length ≤ 16777216) : gReprB [s] h = some (.str (PyData.list ds).shown) := by
  show (match dat s h with | some (.list ds) => _ | _ => none) = _
  rw [e]
  dsimp only
  rw [ei]
  dsimp only
  rw [if_pos]
  rw [Bool.and_eq_true]
  exact ⟨List.all_eq_true.mpr fun i m => decide_eq_true (hb i m), decide_eq_true hl⟩
end
end FL

namespace FL
open PySem PySem.Spec PyProof.Rows L2 PySem.W
/-! ### sorted(xs) of a list of tuples that are alike -/
def tupB : PyData → Bool
  | .tuple (_ :: _) => true
  | _ => false
theorem tupB_ok {d : PyData} (h : tupB d = true) : ∃ x r, d = .tuple (x :: r) := by
  unfold tupB at h
  split at h
  · exact ⟨_, _, rfl⟩
  · cases h
def sortB (ds : List PyData) : Bool := ds.all (fun d => ds.all fun e => alike d e) && ds.all tupB && ds.all (fun d => decide (d.depth ≤ 60)) && ds.all (fun d => !d.hasDict) && decide (ds.length ≤ 16777216)
def srtD (ds : List PyData) : List PyData := ds.mergeSort (dataLe false id)
def gSorted : GL := fun ss h => match ss with
  | [s] => match litems s h with
    | some ds => if sortB ds = true then some (.list (srtD ds)) else none
    | none => none
  | _ => none
section
variable {X : Cx} {C : Fc}
theorem each_of {pins : List (Addr × Obj)} {σ : St} {H : Hp} {s : Shared} (I : Inv X pins σ H s) {M : Ms} : ∀ {vs : List V} {ds : List PyData} {us : List Value}, RpAll X.K H M vs ds → Vals vs us → (∀ d ∈ ds, d.hasDict = false) → EachIs (fun u (p : V × PyData) => RelV p.1 u ∧ Rp X.K H M p.1 p.2 ∧ ∃ as, Reads s.heap u p.2 as) us (vs.zip ds)
  | _, _, _, .nil, r, _ => by cases r; exact .nil
  | _, _, _, .cons q t, r, nd => by
    cases r with
    | cons r0 r1 =>
      have hd := Rp.dp _ _ (nd _ List.mem_cons_self) q
      obtain ⟨as, rr⟩ := Dp.reads I _ _ _ hd r0
      exact .cons ⟨r0, q, as, rr⟩ (each_of I t r1 fun d m => nd d (List.mem_cons_of_mem _ m))
theorem each_back {H : Hp} {h : Heap} {M : Ms} : ∀ {ps : List (V × PyData)} {us : List Value}, EachIs (fun u (p : V × PyData) => RelV p.1 u ∧ Rp X.K H M p.1 p.2 ∧ ∃ as, Reads h u p.2 as) us ps → Vals (ps.map (·.1)) us ∧ RpAll X.K H M (ps.map (·.1)) (ps.map (·.2))
  | _, _, .nil => ⟨.nil, .nil⟩
  | _, _, .cons ⟨r0, q, _⟩ t => by
    obtain ⟨a, b⟩ := each_back t
    exact ⟨.cons r0 a, .cons q b⟩
theorem zip_snd {M : Ms} {H : Hp} : ∀ {vs : List V} {ds : List PyData}, RpAll X.K H M vs ds → (vs.zip ds).map (·.2) = ds ∧ (vs.zip ds).length = ds.length
  | _, _, .nil => ⟨rfl, rfl⟩
  | _, _, .cons q t => by
    obtain ⟨a, b⟩ := zip_snd t
    exact ⟨by rw [List.zip_cons_cons, List.map_cons, a], by rw [List.zip_cons_cons, List.length_cons, List.length_cons, b]⟩
theorem c_sorted (hu : X.A.units + 65 < cLine) : CallR X (.builtin "sorted") (rdC X.K C gSorted) := fun pins s σ H xs us Q I r ⟨ρ, h, ss, d, S, r1, e, k⟩ => by
  unfold gSorted at e
  split at e
  · split at e
    · rename_i ds ei
      split at e
      · rename_i c
        cases e
        obtain ⟨y, rfl, ry⟩ := SlVs.one r1
        obtain ⟨a, vs, rfl, sq, ra⟩ := litems_rel S ry ei
        obtain ⟨its, rv, hl, _⟩ := I.list sq
        rw [Vals.ref1 r]
        unfold sortB at c
        simp only [Bool.and_eq_true, List.all_eq_true, decide_eq_true_eq, Bool.not_eq_true'] at c
        obtain ⟨⟨⟨⟨c1, c2⟩, c3⟩, c4⟩, c5⟩ := c
        have ea := each_of I ra rv c4
        obtain ⟨z1, z2⟩ := zip_snd ra
        have hL : (vs.zip ds).length ≤ sizeLine := by rw [z2, sizeLine_eq]; exact c5
        refine sorted_data (enc := fun p : V × PyData => p.2) hl.isList ea (ea.mono fun _ _ q => q.2.2) (by rw [z1]; exact fun d hd d' hd' => c1 d hd d' hd') (by rw [z1]; exact .inl fun d hd => tupB_ok (c2 d hd)) hL (fun b hb => ?_) fun out h1 h2 => ?_
        · have hb2 : b.2 ∈ ds := by rw [← z1]; exact List.mem_map_of_mem hb
          have := c3 _ hb2
          omega
        · obtain ⟨g1, g2⟩ := each_back (X := X) h2
          obtain ⟨ep, he'⟩ := PyProof.Rows.sortedAll_at s.heap its (List.toArray out)
          have em : (((vs.zip ds).mergeSort (dataLe false fun p : V × PyData => p.2)).map (·.2)) = srtD ds := by
            have q := List.map_mergeSort (r := dataLe false fun p : V × PyData => p.2) (s := dataLe false id) (f := fun p : V × PyData => p.2) (l := vs.zip ds) (fun a _ b _ => rfl)
            rw [z1] at q
            exact q
          rw [em] at g2
          have hlen : (((vs.zip ds).mergeSort (dataLe false fun p : V × PyData => p.2)).map (·.1)).length ≤ sizeLine := by rw [List.length_map, List.length_mergeSort]; exact hL
          have hp := I.hok.fresh (Nat.le_succ s.heap.objs.size)
          exact ⟨.ref _, upd H (s.heap.objs.size + 1) (.lst (((vs.zip ds).mergeSort (dataLe false fun p : V × PyData => p.2)).map (·.1))), I.laid (t' := s.toks) (fun _ _ => PyProof.Rows.sortedAll_old) (Nat.le_succ _) ⟨hlen, out, ep, g1, he'⟩, rfl, k _ _ (Ex.laid S hp) (S.laid hp) (Rp.newLst S hp g2)⟩
      · cases e
    · cases e
  · cases e
end
end FL

namespace FL
open PySem PySem.Spec PyProof.Rows L2 PySem.W
/-! ### rows (cost, way), put in order -/
def rowW (p : Nat × List Nat) : PyData := .tuple [.int p.1, .tuple (natsD p.2)]
def inW (ws : List Nat) : List Int := ws.map fun w : Nat => (w : Int)
theorem natsD_in (ws : List Nat) : natsD ws = (inW ws).map PyData.int := by unfold natsD inW; rw [List.map_map]; rfl
theorem inW_inj : ∀ {a b : List Nat}, inW a = inW b → a = b
  | [], [], _ => rfl
  | [], _ :: _, h => by cases h
  | _ :: _, [], h => by cases h
  | x :: a, y :: b, h => by
    have h' : (x : Int) :: inW a = (y : Int) :: inW b := h
    rw [List.cons.injEq] at h'
    rw [inW_inj h'.2, show x = y by omega]
def leW (a b : Nat × List Nat) : Bool := decide (a.1 < b.1 ∨ (a.1 = b.1 ∧ inW a.2 ≤ inW b.2))
theorem alike_nats (a b : List Nat) : alike (.tuple (natsD a)) (.tuple (natsD b)) = true := by
  rw [natsD_in, natsD_in]
  show alikeAll _ _ = true
  exact alike_ints _ _
theorem alike_row (a b : Nat × List Nat) : alike (rowW a) (rowW b) = true := by
  have := alike_nats a.2 b.2
  simp [rowW, alike, alikeAll] at this ⊢
  exact this
theorem eqv_ints : ∀ xs ys : List Int, PyData.eqvAll (xs.map .int) (ys.map .int) = decide (xs = ys)
  | [], [] => by simp [PyData.eqvAll]
  | [], _ :: _ => by simp [PyData.eqvAll]
  | _ :: _, [] => by simp [PyData.eqvAll]
  | x :: xs, y :: ys => by
    simp only [List.map_cons, PyData.eqvAll, PyData.eqv, eqv_ints xs ys]
    by_cases h1 : x = y <;> by_cases h2 : xs = ys <;> simp [h1, h2]
theorem dataLe_row (a b : Nat × List Nat) : dataLe false id (rowW a) (rowW b) = leW a b := by
  show (!dataLt (rowW b) (rowW a)) = _
  unfold rowW
  rw [dataLt_pair (by simp [alike]) (alike_nats _ _), dataLt_int]
  have e1 : PyData.eqv (.int (b.1 : Int)) (.int a.1) = decide (b.1 = a.1) := by
    simp only [PyData.eqv]
    by_cases h : b.1 = a.1 <;> simp [h]
    omega
  have e2 : PyData.eqv (.tuple (natsD b.2)) (.tuple (natsD a.2)) = decide (inW b.2 = inW a.2) := by
    rw [natsD_in, natsD_in]
    show PyData.eqvAll _ _ = _
    exact eqv_ints _ _
  have e3 : dataLt (.tuple (natsD b.2)) (.tuple (natsD a.2)) = decide (inW b.2 < inW a.2) := by
    rw [natsD_in, natsD_in, dataLt_tuple]
    exact dataLt_ints _ _
  rw [e1, e2, e3]
  unfold leW
  by_cases h1 : b.1 = a.1
  · by_cases h2 : inW b.2 = inW a.2
    · have : inW a.2 ≤ inW a.2 := List.le_refl _
      simp [h1, h2, this]
    · by_cases h3 : inW b.2 < inW a.2
      · have h4 : ¬ inW a.2 ≤ inW b.2 := fun r => List.not_lt.mpr r h3
        simp [h1, h2, h3, h4]
      · have h4 : inW a.2 ≤ inW b.2 := List.not_lt.mp h3
        simp [h1, h2, h3, h4]
  · by_cases h3 : a.1 < b.1
    · have h4 : ¬ b.1 < a.1 := by omega
      simp [h1, h3, h4]
    · have h4 : b.1 < a.1 := by omega
      have h5 : ¬ a.1 = b.1 := by omega
      simp [h1, h3, h4, h5]
theorem srt_rows (ps : List (Nat × List Nat)) : srtD (ps.map rowW) = (ps.mergeSort leW).map rowW := by
  unfold srtD
  exact (List.map_mergeSort (r := leW) (s := dataLe false id) (f := rowW) (l := ps) (fun a _ b _ => (dataLe_row a b).symm)).symm
theorem leW_trans (a b c : Nat × List Nat) (h1 : leW a b = true) (h2 : leW b c = true) : leW a c = true := by
  unfold leW at *
  simp only [decide_eq_true_eq] at *
  rcases h1 with h1 | ⟨h1, g1⟩ <;> rcases h2 with h2 | ⟨h2, g2⟩
  · exact .inl (by omega)
  · exact .inl (by omega)
  · exact .inl (by omega)
  · exact .inr ⟨by omega, List.le_trans g1 g2⟩
theorem leW_total (a b : Nat × List Nat) : (leW a b || leW b a) = true := by
  unfold leW
  simp only [Bool.or_eq_true, decide_eq_true_eq]
  rcases Nat.lt_trichotomy a.1 b.1 with h | h | h
  · exact .inl (.inl h)
  · rcases List.le_total (inW a.2) (inW b.2) with g | g
    · exact .inl (.inr ⟨h, g⟩)
    · exact .inr (.inr ⟨h.symm, g⟩)
  · exact .inr (.inl h)
theorem leW_anti {a b : Nat × List Nat} (h1 : leW a b = true) (h2 : leW b a = true) : a = b := by
  unfold leW at *
  simp only [decide_eq_true_eq] at *
  rcases h1 with h1 | ⟨h1, g1⟩ <;> rcases h2 with h2 | ⟨h2, g2⟩
  · omega
  · omega
  · omega
  · exact Prod.ext h1 (inW_inj (List.le_antisymm g1 g2))
theorem eq_sorted : ∀ {l m : List (Nat × List Nat)}, l.Pairwise (fun a b => leW a b = true) → m.Pairwise (fun a b => leW a b = true) → l.Perm m → l = m
  | [], m, _, _, p => (List.nil_perm.mp p).symm
  | a :: l, [], _, _, p => by have := p.length_eq; simp at this
  | a :: l, b :: m, h1, h2, p => by
    obtain ⟨p1, q1⟩ := List.pairwise_cons.mp h1
    obtain ⟨p2, q2⟩ := List.pairwise_cons.mp h2
    have ha : a ∈ b :: m := p.subset List.mem_cons_self
    have hb : b ∈ a :: l := p.symm.subset List.mem_cons_self
    have e : a = b := by
      rcases List.mem_cons.mp ha with h | h
      · exact h
      · rcases List.mem_cons.mp hb with g | g
        · exact g.symm
        · exact leW_anti (p1 b g) (p2 a h)
    subst e
    rw [eq_sorted q1 q2 (List.Perm.cons_inv p)]
theorem sort_is {ps qs : List (Nat × List Nat)} (p : ps.Perm qs) (h : qs.Pairwise (fun a b => leW a b = true)) : ps.mergeSort leW = qs :=
  eq_sorted (List.pairwise_mergeSort leW_trans leW_total ps) h ((List.mergeSort_perm ps leW).trans p)
end FL

namespace FL
open PySem PySem.Spec PyProof.Rows L2
/-! ### a comprehension over a list of the def's own: items as they stand at each turn -/
def compO (t : Tg) (tt : Tv) (fe : Ev) (env : En) (n : Nat) : Nat → Nat → List PyData → Hs → Rz (List PyData)
  | 0, _, _, _ => .bad
  | k + 1, i, acc, h => match obL h[n]? with
    | none => .bad
    | some ds => match ds[i]? with
      | none => .ok acc h
      | some d => match t.put d env with
        | none => .bad
        | some e1 => match tt e1 h with
          | .ok true h => match fe e1 h with
            | .ok (.val x) h => if acc.length < 16777216 then compO t tt fe env n k (i + 1) (acc ++ [x]) h else .bad
            | _ => .bad
          | .ok false h => compO t tt fe env n k (i + 1) acc h
          | _ => .bad
def compS (t : Tg) (tt : Tv) (fe : Ev) (env : En) (s : Sl) (h : Hs) : Rz (List PyData) := match s with
  | .loc n => compO t tt fe env n 16777217 0 [] h
  | _ => .bad
def eCompO (fi : Ev) (t : Tg) (vs : List Nat) (tt : Tv) (fe : Ev) : Ev := fun env h => (fi env h).bind fun s h => (compS t tt fe (wipeE env vs) s h).bind fun out h => .ok (.val (.list out)) h
def eCompON (fi : Ev) (t : Tg) (vs : List Nat) (tt : Tv) (fe : Ev) : Ev := fun env h => (fi env h).bind fun s h => (compS t tt fe (wipeE env vs) s h).bind fun out h => .ok (.loc h.length) (h ++ [.lst out])
theorem lc_readO {K : PySem.W.Frag} {mg : Str → Option Value} {C : Fc} {Wx : WX} {fi : Ev} {t : Tg} {vs : List Nat} {tt : Tv} {fe : Ev} {σ : St} {H : Hp} {Q : VK} {g : List PyData → Hs → Rz Sl}
    (hsl : ∀ i ∈ t.slots, i ∈ vs) {rt : TT} {re : TE} (ht : ∀ C', C'.T = C.T → ∀ σ H Q, rd K mg C' W0 relT tt σ H Q → rt σ H Q) (he : ∀ C', C'.T = C.T → ∀ σ H Q, rd K mg C' W0 (relE K C') fe σ H Q → re σ H Q)
    (fin : ∀ (D : Addr) (ρ1 ρ : Fps) (H1 H : Hp) (env : En) (acc : List PyData) (h : Hs) (av : List V) (σ' : St) h1, SimH K C ρ1 h1 H1 → H1 D = none → Mid K C D ρ1 H1 env σ' acc ρ h H av → Po K mg C Wx σ ρ1 H1 (relE K C) (g acc h) Q → Q (.ref D) H)
    (p : rd K mg C Wx (relE K C) (fun env h => (fi env h).bind fun s h => (compS t tt fe (wipeE env vs) s h).bind g) σ H Q) : tLc (iList K (rd K mg C Wx (relE K C) fi)) (t.rd K) rt re vs σ H Q := by
  refine rd.bind (f := fi) (g := fun s env h => (compS t tt fe (wipeE env vs) s h).bind g) p fun ρ1 env1 h1 s x0 H1 S1 E1 r1 P1 => ?_
  cases s with
  | val d => exact P1.elim
  | inn n i => exact P1.elim
  | exn x => exact P1.elim
  | loc n =>
  obtain ⟨fp, a, e1, e2, rfl⟩ := r1
  have P1' : Po K mg C Wx σ ρ1 H1 (relE K C) ((compO t tt fe (wipeE env1 vs) n 16777217 0 [] h1).bind g) Q := P1
  obtain ⟨ds0, ed0⟩ : ∃ ds, h1[n]? = some (.lst ds) := by
    have P2 := P1'
    unfold compO at P2
    cases q : h1[n]? with
    | none => rw [q] at P2; exact P2.elim
    | some o =>
      rw [q] at P2
      cases o with
      | lst ds => exact ⟨ds, rfl⟩
      | dic _ => exact P2.elim
      | lls _ => exact P2.elim
      | dil _ _ => exact P2.elim
      | gone => exact P2.elim
  obtain ⟨e1', vs0, q0, _⟩ := S1.lst e1 e2 ed0
  refine ⟨a, rfl, ⟨vs0, .inl (.inl q0)⟩, ?_⟩
  intro D hD
  have M0 : Mid K C D ρ1 H1 (wipeE env1 vs) (wipe σ vs) [] ρ1 h1 (upd H1 D (.lst [])) [] := by
    refine ⟨S1.plus hD, ⟨(E1.wiped vs).len, fun i s e => ?_⟩, Stp.plus hD, fun n fp e => ⟨fp, e, pfx_rfl⟩, upd_same, .nil⟩
    obtain ⟨v, e1, r⟩ := (E1.wiped vs).at_ i s e
    refine ⟨v, e1, ?_⟩
    cases s with
    | val d => exact Rp.stp (Stp.plus hD) r
    | loc n => exact r
    | inn n i => exact r
    | exn x => exact r
  refine ⟨fun i m H2 => ∃ ρ2 h2 acc av, Mid K C D ρ1 H1 (wipeE env1 vs) (wipe σ vs) acc ρ2 h2 H2 av ∧ Po K mg C Wx σ ρ1 H1 (relE K C) ((compO t tt fe (wipeE env1 vs) n m i acc h2).bind g) Q,
    ⟨16777217, ρ1, h1, [], [], M0, P1'⟩, fun i m H2 hW => ?_⟩
  obtain ⟨ρ2, h2, acc, av, M, P2⟩ := hW
  cases m with
  | zero => exact P2.elim
  | succ k =>
  unfold compO at P2
  cases qo : h2[n]? with
  | none => rw [qo] at P2; exact P2.elim
  | some o =>
  rw [qo] at P2
  cases o with
  | dic _ => exact P2.elim
  | lls _ => exact P2.elim
  | dil _ _ => exact P2.elim
  | gone => exact P2.elim
  | lst ds =>
  rw [v_obL] at P2
  dsimp only at P2
  obtain ⟨fp2, ef2, pf2⟩ := M.root n _ e1
  obtain ⟨ef2', vs2, q2, ra2⟩ := M.S.lst ef2 (pfx_head pf2 e2) qo
  have sq2 : SqL K H2 a vs2 := .inl (.inl q2)
  cases hi : ds[i]? with
  | none =>
    rw [hi] at P2
    have hl : ds.length ≤ i := List.getElem?_eq_none_iff.mp hi
    exact .inl ⟨⟨vs2, sq2, by rw [ra2.length]; exact hl⟩, fin D ρ1 ρ2 H1 H2 _ acc h2 av _ h1 S1 hD M P2⟩
  | some d =>
    rw [hi] at P2
    dsimp only at P2
    obtain ⟨v, ev, rv⟩ := ra2.get hi
    refine .inr ⟨⟨vs2, v, sq2, ev⟩, fun H' => ∃ ρ3 h3 acc av, Mid K C D ρ1 H1 (wipeE env1 vs) (wipe σ vs) acc ρ3 h3 H' av ∧ Po K mg C Wx σ ρ1 H1 (relE K C) ((compO t tt fe (wipeE env1 vs) n k (i + 1) acc h3).bind g) Q, fun H' hN => ⟨k, by omega, hN⟩, fun x H' y => ?_⟩
    obtain ⟨rfl, hy⟩ := y
    have ex := hy vs2 sq2
    rw [ev] at ex
    cases ex
    have P3 : Po K mg C Wx σ ρ1 H1 (relE K C) ((match t.put d (wipeE env1 vs) with
        | none => .bad
        | some e1 => match tt e1 h2 with
          | .ok true h => match fe e1 h with
            | .ok (.val x) h => if acc.length < 16777216 then compO t tt fe (wipeE env1 vs) n k (i + 1) (acc ++ [x]) h else .bad
            | _ => .bad
          | .ok false h => compO t tt fe (wipeE env1 vs) n k (i + 1) acc h
          | _ => .bad : Rz (List PyData)).bind g) Q := P2
    cases q : t.put d (wipeE env1 vs) with
    | none => rw [q] at P3; exact P3.elim
    | some e1 =>
      rw [q] at P3
      dsimp only at P3
      refine Tg.ok t v d (wipe σ vs) (wipeE env1 vs) e1 _ rv q fun σ3 pt => ⟨by rw [pt.wipe vs hsl, wipe_wipe], ?_⟩
      have E3 : EnvOk K (C.plus D) ρ2 H' e1 σ3 := pt.env (C.plus D) ρ2 rfl M.E
      refine ht ((C.plus D).sub ρ2 H') rfl σ3 H' _ (rd.of M.S.sub (EnvOk.cong (C := C.plus D) (C' := (C.plus D).sub ρ2 H') rfl rfl E3) ?_)
      cases z : tt e1 h2 with
      | bad => rw [z] at P3; exact P3.elim
      | err _ _ => rw [z] at P3; exact P3.elim
      | ok b h4 =>
        rw [z] at P3
        intro ρ4 b' H4 x4 S4 eb
        have eb' : b' = b := eb
        subst eb'
        have M4 := M.step S4 x4
        have x4' : Ex (C.plus D) ρ2 H' ρ4 H4 := Ex.cong (C := (C.plus D).sub ρ2 H') (C' := C.plus D) rfl x4
        cases b' with
        | false =>
          rw [if_neg Bool.false_ne_true]
          exact ⟨ρ4, h4, acc, av, M4, P3⟩
        | true =>
          rw [if_pos rfl]
          dsimp only at P3
          refine he ((C.plus D).sub ρ4 H4) rfl σ3 H4 _ (rd.of M4.S.sub (EnvOk.cong (C := C.plus D) (C' := (C.plus D).sub ρ4 H4) rfl rfl (E3.ex x4')) ?_)
          cases w : fe e1 h4 with
          | bad => rw [w] at P3; exact P3.elim
          | err _ _ => rw [w] at P3; exact P3.elim
          | ok s5 h5 =>
            rw [w] at P3
            cases s5 with
            | loc n => exact P3.elim
            | inn n i => exact P3.elim
            | exn x => exact P3.elim
            | val x5 =>
              intro ρ5 y5 H5 x5' S5 r5
              have M5 := M4.step S5 x5'
              have P4 : Po K mg C Wx σ ρ1 H1 (relE K C) ((if acc.length < 16777216 then compO t tt fe (wipeE env1 vs) n k (i + 1) (acc ++ [x5]) h5 else .bad : Rz (List PyData)).bind g) Q := P3
              split at P4
              · rename_i hl
                have bD : (C.plus D).Bar D := .inr rfl
                have n0 : (C.plus D).H0 D = none := by
                  cases q0 : C.H0 D with
                  | none => exact q0
                  | some o =>
                    by_cases hw : D ∈ C.W.flatten
                    · obtain ⟨o', e'⟩ := S1.wtr D hw
                      rw [hD] at e'; cases e'
                    · obtain ⟨o', e', _⟩ := S1.frK D o q0 hw
                      rw [hD] at e'; cases e'
                have r5' : Rp K H5 (Mo (C.plus D) ρ5) y5 x5 := r5
                have sp := Stp.poke (C := C.plus D) (ρ := ρ5) (H := H5) (o := .lst (av ++ [y5])) bD
                refine ⟨av, M5.at_, by rw [M5.all.length, sizeLine_eq]; exact hl, ρ5, h5, acc ++ [x5], av ++ [y5], ⟨M5.S.poke bD n0 M5.at_ nte_lst, ?_, M5.st.trans sp, M5.root, upd_same, (M5.all.stp sp).append (.cons (Rp.stp sp r5') .nil)⟩, P4⟩
                exact M5.E.ex ⟨sp, fun n fp e => ⟨fp, e, pfx_rfl⟩⟩
              · exact P4.elim
section
variable {X : Cx} {C : Fc} {Wx : WX} {elt tg iter : Expr} {ifs : List Expr} {scope : Scope} {own : List (Str × Nat)} {pos : Pos} {fi : Ev} {t : Tg} {tt : Tv} {fe : Ev}
theorem fe_compO (hc : X.calm = true) (hN : X.N.Nodup) (hi : FE X C Wx iter fi) (ok : BlkOk X.N X.env.scope scope own)
    (hg : ∀ (s : Shared) (H : Hp) (Cc : Addr) (cl : List (Str × Addr)) (fp : List Addr), FG (X.blk s H scope (compEnvC scope cl Cc X.env) fp) tg t)
    (ht : ∀ (C' : Fc) (_ : C'.T = C.T) (s : Shared) (H : Hp) (Cc : Addr) (cl : List (Str × Addr)) (fp : List Addr), FTs (X.blk s H scope (compEnvC scope cl Cc X.env) fp) C' W0 ifs tt)
    (he : ∀ (C' : Fc) (_ : C'.T = C.T) (s : Shared) (H : Hp) (Cc : Addr) (cl : List (Str × Addr)) (fp : List Addr), FE (X.blk s H scope (compEnvC scope cl Cc X.env) fp) C' W0 elt fe)
    (hsl : ∀ i ∈ t.slots, i ∈ own.map (·.2) := by decide) (hs : ∀ x, foldedSetIterable iter X.env x = pure x := by intro _; rfl) :
    FE X C Wx (.ListComp elt [⟨tg, iter, ifs, 0⟩] scope pos) (eCompO fi t (own.map (·.2)) tt fe) :=
  PE.imp (pe_lc (tt := fun σ H Q => ∃ C', C'.T = C.T ∧ rd X.K X.mg C' W0 relT tt σ H Q) (te := fun σ H Q => ∃ C', C'.T = C.T ∧ rd X.K X.mg C' W0 (relE X.K C') fe σ H Q) hc hN (pi_list hi) ok hg
    (fun s H Cc cl fp => ⟨fun pins s' σ H Q I ⟨C', z, q⟩ => (ht C' z s _ Cc cl fp).run pins s' σ H Q I q⟩) (fun s H Cc cl fp => ⟨fun pins s' σ H Q I ⟨C', z, q⟩ => (he C' z s _ Cc cl fp).run pins s' σ H Q I q⟩) hs) fun σ H Q p =>
    lc_readO (g := fun out h => .ok (.val (.list out)) h) hsl (fun C' z _ _ _ q => ⟨C', z, q⟩) (fun C' z _ _ _ q => ⟨C', z, q⟩) lc_val p
theorem fs_setLcO {i : Nat} {y : Str} {py spos : Pos} (hc : X.calm = true) (hN : X.N.Nodup) (hy : X.N[i]? = some y) (hyl : X.env.scope.names.lookup y = some .local)
    (hsw : swapsWith (.ListComp elt [⟨tg, iter, ifs, 0⟩] scope pos) (some (.Name y py)) spos.line X.env = pure true) (hi : FE X C Wx iter fi) (ok : BlkOk X.N X.env.scope scope own)
    (hg : ∀ (s : Shared) (H : Hp) (Cc : Addr) (cl : List (Str × Addr)) (fp : List Addr), FG (X.blk s H scope (compEnvC scope cl Cc X.env) fp) tg t)
    (ht : ∀ (C' : Fc) (_ : C'.T = C.T) (s : Shared) (H : Hp) (Cc : Addr) (cl : List (Str × Addr)) (fp : List Addr), FTs (X.blk s H scope (compEnvC scope cl Cc X.env) fp) C' W0 ifs tt)
    (he : ∀ (C' : Fc) (_ : C'.T = C.T) (s : Shared) (H : Hp) (Cc : Addr) (cl : List (Str × Addr)) (fp : List Addr), FE (X.blk s H scope (compEnvC scope cl Cc X.env) fp) C' W0 elt fe)
    (hsl : ∀ i ∈ t.slots, i ∈ own.map (·.2) := by decide) (hs : ∀ x, foldedSetIterable iter X.env x = pure x := by intro _; rfl) :
    FS X C Wx (.Assign [.Name y py] (.ListComp elt [⟨tg, iter, ifs, 0⟩] scope pos) spos) (sSet i (eCompO fi t (own.map (·.2)) tt fe)) :=
  PS.imp (ps_setLc (tt := fun σ H Q => ∃ C', C'.T = C.T ∧ rd X.K X.mg C' W0 relT tt σ H Q) (te := fun σ H Q => ∃ C', C'.T = C.T ∧ rd X.K X.mg C' W0 (relE X.K C') fe σ H Q) hc hN hy hyl hsw (pi_list hi) ok hg
    (fun s H Cc cl fp => ⟨fun pins s' σ H Q I ⟨C', z, q⟩ => (ht C' z s _ Cc cl fp).run pins s' σ H Q I q⟩) (fun s H Cc cl fp => ⟨fun pins s' σ H Q I ⟨C', z, q⟩ => (he C' z s _ Cc cl fp).run pins s' σ H Q I q⟩) hs) fun D σ H p =>
    lc_readO (g := fun out h => .ok (.val (.list out)) h) hsl (fun C' z _ _ _ q => ⟨C', z, q⟩) (fun C' z _ _ _ q => ⟨C', z, q⟩) lc_val
      (rdS.bind (r1 := relE X.K C) (R := fun x H1 => gName i x σ H1 D.nx) (f := eCompO fi t (own.map (·.2)) tt fe) (g := fun s env h => .next (env.set i (some s)) h) p fun ρ1 env h1 a b H1 S1 E1 r1 P1 => P1 ρ1 _ H1 (Stp.refl _ _) S1 (E1.set r1 i))
end
/-! ### reckoning -/
section
variable {env : En} {h : Hs} {fi : Ev} {t : Tg} {vs : List Nat} {tt : Tv} {fe : Ev}
@[simp] theorem v_compOv : eCompO fi t vs tt fe env h = (fi env h).bind fun s h => (compS t tt fe (wipeE env vs) s h).bind fun out h => .ok (.val (.list out)) h := id rfl
theorem v_compS {n : Nat} : compS t tt fe env (.loc n) h = compO t tt fe env n 16777217 0 [] h := id rfl
/-- nothing is changed meanwhile -/
theorem compO_map {α : Type} {E : α → En} {dd w : α → PyData} {P : α → Bool} {n : Nat} {xs : List α} (hp : ∀ z ∈ xs, t.put (dd z) env = some (E z)) (hc : ∀ z ∈ xs, tt (E z) h = .ok (P z) h) (hf : ∀ z ∈ xs, P z = true → fe (E z) h = .ok (.val (w z)) h) (eh : h[n]? = some (.lst (xs.map dd))) :
    ∀ (k i : Nat) (acc : List PyData), i + k = xs.length → acc.length + k ≤ 16777216 → ∀ m, k < m → compO t tt fe env n m i acc h = .ok (acc ++ ((xs.drop i).filter P).map w) h
  | 0, i, acc, hk, hl, m + 1, hm => by
    have : xs.drop i = [] := List.drop_eq_nil_of_le (by omega)
    rw [this]
    unfold compO
    rw [eh, v_obL]
    dsimp only
    rw [List.getElem?_eq_none (by rw [List.length_map]; omega)]
    simp
  | k + 1, i, acc, hk, hl, m + 1, hm => by
    unfold compO
    rw [eh, v_obL]
    dsimp only
    have hi : i < xs.length := by omega
    rw [List.getElem?_map, List.getElem?_eq_getElem hi]
    have ed : xs.drop i = xs[i] :: xs.drop (i + 1) := List.drop_eq_getElem_cons hi
    have mi : xs[i] ∈ xs := List.getElem_mem hi
    show (match t.put (dd xs[i]) env with
      | none => .bad
      | some e1 => match tt e1 h with
        | .ok true h => match fe e1 h with
          | .ok (.val x) h => if acc.length < 16777216 then compO t tt fe env n m (i + 1) (acc ++ [x]) h else .bad
          | _ => .bad
        | .ok false h => compO t tt fe env n m (i + 1) acc h
        | _ => .bad : Rz (List PyData)) = _
    rw [hp _ mi]
    dsimp only
    rw [hc _ mi, ed]
    cases q : P xs[i] with
    | true =>
      dsimp only
      rw [hf _ mi q]
      dsimp only
      rw [if_pos (by omega), compO_map hp hc hf eh k (i + 1) _ (by omega) (by rw [List.length_append, List.length_singleton]; omega) m (by omega), List.filter_cons, if_pos q, List.map_cons, List.append_assoc]
      rfl
    | false =>
      dsimp only
      rw [compO_map hp hc hf eh k (i + 1) _ (by omega) (by omega) m (by omega), List.filter_cons, if_neg (by rw [q]; exact Bool.false_ne_true)]
theorem compS_map {α : Type} {E : α → En} {dd w : α → PyData} {P : α → Bool} {n : Nat} {xs : List α} (hp : ∀ z ∈ xs, t.put (dd z) env = some (E z)) (hc : ∀ z ∈ xs, tt (E z) h = .ok (P z) h) (hf : ∀ z ∈ xs, P z = true → fe (E z) h = .ok (.val (w z)) h) (eh : h[n]? = some (.lst (xs.map dd))) (hl : xs.length ≤ 16777216) :
    compS t tt fe env (.loc n) h = .ok ((xs.filter P).map w) h := by
  rw [v_compS, compO_map hp hc hf eh xs.length 0 [] (by omega) (by simp; omega) 16777217 (by omega)]
  simp
end
theorem v_outL {k n : Nat} {ds : List PyData} {h : Hs} {fr : Bool} (hn : noLs ds = true) (e : h[n]? = some (.lst ds)) (hk : k ≤ n := by decide) : outD fr k (.loc n) h = .ok (.list ds) (h.take k) := by
  unfold outD
  simp [e, hk, hn]
theorem v_cutO2 {n : Nat} {ds : List PyData} {lo hi : Option Int} {h : Hs} (e : h[n]? = some (.lst ds)) : gCut (.loc n) lo hi h = some (.list (cutD ds lo hi)) := by
  show (match h[n]? with
    | some (.lst ds) => some (PyData.list (cutD ds lo hi))
    | _ => none) = _
  rw [e]
theorem v_isaO {c : String} {n : Nat} {ds : List PyData} {h : Hs} (e : h[n]? = some (.lst ds)) : gIsa c (.loc n) h = some (.bool (isaN c "list")) := by
  have : tyN (.loc n) h = some "list" := by
    show (match h[n]? with
      | some (.lst _) => some "list"
      | _ => none) = _
    rw [e]
  unfold gIsa
  rw [this]
  rfl
end FL

namespace FL
open PySem PySem.Spec PyProof.Rows L2
/-! ### x * y of whole numbers, of a tuple and a whole number -/
def gMul : G2 := fun s t h => match s, t with
  | .val (.int i), .val (.int j) => fMul i j
  | .val (.tuple a), .val (.int k) => if a ≠ [] ∧ 2 ≤ k ∧ k ≤ 1000 ∧ a.length ≤ 1000 then some (.tuple (List.replicate k.toNat a).flatten) else none
  | _, _ => none
theorem RpAll.flat {K : PySem.W.Frag} {H : Hp} {M : Ms} {vs : List V} {ds : List PyData} (r : RpAll K H M vs ds) : ∀ k : Nat, RpAll K H M (List.replicate k vs).flatten (List.replicate k ds).flatten
  | 0 => .nil
  | k + 1 => by
    rw [List.replicate_succ, List.replicate_succ, List.flatten_cons, List.flatten_cons]
    exact RpAll.append r (RpAll.flat r k)
section
variable {X : Cx} {C : Fc}
theorem o_mulT : OpR X (binaryOp .Mult) (rd2 X.K C gMul) := OpR.imp ((o_mul (C := C)).or op_repT) fun x y H Q ⟨ρ, h, s, t, d, S, r1, r2, e, k⟩ => by
  unfold gMul at e
  split at e
  · exact .inl ⟨ρ, h, _, _, d, S, r1, r2, e, k⟩
  · rename_i a j
    split at e
    · rename_i hq
      cases e
      cases (show Rp X.K H (Mo C ρ) y (.int j) from r2)
      cases (show Rp X.K H (Mo C ρ) x (.tuple a) from r1) with
      | tup q1 a1 =>
        refine .inr ⟨_, j, _, rfl, rfl, q1.sq, fun z => ?_, hq.2.1, hq.2.2.1, by rw [a1.length]; exact hq.2.2.2, fun p hp => k _ _ (Ex.laid S hp) (S.laid hp) (Rp.newTup S hp (a1.flat _))⟩
        subst z
        exact hq.1 (List.eq_nil_of_length_eq_zero a1.length.symm)
    · cases e
  · cases e
/-! ### l.index(x) of data -/
def mIndexD : GM := fun s ss h => match litems s h, ss with
  | some ds, [.val d] => if shp (.list ds) && shp d && (ds.any fun z => PyData.eqv z d) then some (.int (ds.findIdx (fun z => PyData.eqv z d) : Nat), h) else none
  | _, _ => none
theorem mem_dp {K : PySem.W.Frag} {H : Hp} {M : Ms} {a : Addr} {vs : List V} {ds : List PyData} (q : SqL K H a vs) (r : RpAll K H M vs ds) (h : shp (.list ds) = true) : Dp K H (.ref a) (.list ds) := by
  have := shp_nd h
  exact .lst q (r.dp ds _ (by simpa only [PyData.hasDict] using this))
theorem m_indexD (hu : X.A.units + 65 < cLine) : MtR X "list.index" (rdM X.K C mIndexD) := MtR.imp (mt_indexD hu) fun x xs H Q ⟨ρ, h, s, ss, d, h', S, r1, r2, e, k⟩ => by
  unfold mIndexD at e
  split at e
  · rename_i ds d0 e1
    split at e
    · rename_i c
      rw [Bool.and_eq_true, Bool.and_eq_true] at c
      obtain ⟨⟨c1, c2⟩, c3⟩ := c
      cases e
      obtain ⟨a, vs, rfl, sq, ra⟩ := litems_rel S r1 e1
      obtain ⟨y, rfl, ry⟩ := SlVs.one r2
      obtain ⟨z, hz, ez⟩ := List.any_eq_true.mp c3
      have hlt : ds.findIdx (fun z => PyData.eqv z d0) < ds.length := List.findIdx_lt_length_of_exists ⟨z, hz, ez⟩
      refine ⟨a, y, d0, ds, ds.findIdx (fun z => PyData.eqv z d0), ds[ds.findIdx (fun z => PyData.eqv z d0)], rfl, rfl, mem_dp sq ra c1, Rp.dp d0 _ (shp_nd c2) ry, c1, c2, List.getElem?_eq_getElem hlt, List.findIdx_getElem (w := hlt), fun m z' hm hz' => ?_, k _ H (Ex.refl _ _ _) S (.int _)⟩
      have hm' : m < ds.length := by omega
      rw [List.getElem?_eq_getElem hm'] at hz'
      cases hz'
      have := List.not_of_lt_findIdx hm
      simpa using this
    · cases e
  · cases e
/-! ### repr(x) of data with dicts, without lists -/
mutual
def lfr : PyData → Bool
  | .list _ => false
  | .tuple ds => lfrs ds
  | _ => true
def lfrs : List PyData → Bool
  | [] => true
  | d :: ds => lfr d && lfrs ds
end
theorem dict_reads {ps : List (Int × Int)} : ∀ {es : List DictEntry} {vs : List (Key × Value)} {qs : List (Int × Int)} {h : Heap} {P : Program} {w : World}, Pairs (mixKind P w) es vs → KV (dcV qs) vs →
    ReadsAll h (es.map (·.key)) ((dcD qs).map (·.1)) [] ∧ ReadsAll h (es.map (·.val)) ((dcD qs).map (·.2)) []
  | [], _, qs, h, P, w, .nil, kv => by
    cases qs with
    | nil => exact ⟨.nil, .nil⟩
    | cons q qs => cases kv
  | e :: es, _, qs, h, P, w, .cons h1 h2 t, kv => by
    cases qs with
    | nil => cases kv
    | cons q qs =>
      cases kv with
      | cons hq tq =>
        obtain ⟨i1, i2⟩ := dict_reads (ps := ps) (h := h) t tq
        obtain ⟨hk, hv⟩ := hq
        have hk1 : keyIs (Sum.inl q.1) e.key = true := by rw [show (Sum.inl q.1 : Key) = _ from hk]; exact h1
        obtain ⟨t1, e1⟩ := hv
        refine ⟨?_, ?_⟩
        · rcases keyIs_shape hk1 with ⟨i, t', ei, ek⟩ | ⟨x, t', ei, ek⟩
          · cases ei
            have := ReadsAll.cons (Reads.int (h := h) q.1 t') i1
            show ReadsAll h (e.key :: es.map (·.key)) (.int q.1 :: (dcD qs).map (·.1)) []
            rw [ek]
            exact this
          · cases ei
        · have := ReadsAll.cons (Reads.int (h := h) q.2 t1) i2
          show ReadsAll h (e.val :: es.map (·.val)) (.int q.2 :: (dcD qs).map (·.2)) []
          rw [h2, e1]
          exact this
section
variable {pins : List (Addr × Obj)} {σ : St} {H : Hp} {s : Shared} {M : Ms}
mutual
theorem Rp.readsD (I : Inv X pins σ H s) : ∀ (d : PyData) (v : V) (u : Value), lfr d = true → Rp X.K H M v d → RelV v u → ∃ as, Reads s.heap u d as ∧ sysModules ∉ as
  | .none, _, _, _, h, r => by cases h; cases r; exact ⟨_, Reads.none, by simp⟩
  | .bool b, _, _, _, h, r => by cases h; cases r; exact ⟨_, Reads.bool b, by simp⟩
  | .int i, _, _, _, h, r => by cases h; obtain ⟨t, rfl⟩ := r; exact ⟨_, Reads.int i t, by simp⟩
  | .str x, _, _, _, h, r => by cases h; obtain ⟨t, rfl⟩ := r; exact ⟨_, Reads.str x t, by simp⟩
  | .list ds, _, _, l, _, _ => by simp [lfr] at l
  | .tuple ds, _, _, l, h, r => by
    cases h with
    | tup hs ha =>
      cases r
      obtain ⟨its, rv, ⟨o, ho, hc, n, hd⟩, _⟩ := I.tuple hs.sq
      obtain ⟨as, hr, ns⟩ := RpAll.readsD I ds _ its (by simpa only [lfr] using l) ha rv
      exact ⟨_, Reads.tuple ho hc hd hr, ns⟩
  | .dict kvs, _, _, _, h, r => by
    cases h with
    | dct ps hq he =>
      cases r
      subst he
      obtain ⟨z, hsm, vs, kv, o, es, ep, ho, hx, hd, _, hp, _⟩ := dk_of I.hok hq.1
      obtain ⟨r1, r2⟩ := dict_reads (ps := ps) (h := s.heap) hp kv
      refine ⟨_, Reads.dict ho hx.1 hd r1 r2, ?_⟩
      have : ¬ _ = sysModules := beq_eq_false_iff_ne.mp hsm
      simp
      exact fun z => this z.symm
theorem RpAll.readsD (I : Inv X pins σ H s) : ∀ (ds : List PyData) (vs : List V) (us : List Value), lfrs ds = true → RpAll X.K H M vs ds → Vals vs us → ∃ as, ReadsAll s.heap us ds as ∧ sysModules ∉ as
  | [], _, _, _, h, r => by cases h; cases r; exact ⟨_, ReadsAll.nil, by simp⟩
  | d :: ds, _, _, l, h, r => by
    cases h with
    | cons h1 h2 =>
      cases r with
      | cons r1 r2 =>
        have l' : lfr d = true ∧ lfrs ds = true := by simpa only [lfrs, Bool.and_eq_true] using l
        obtain ⟨as, q1, n1⟩ := Rp.readsD I d _ _ l'.1 h1 r1
        obtain ⟨bs, q2, n2⟩ := RpAll.readsD I ds _ _ l'.2 h2 r2
        exact ⟨_, ReadsAll.cons q1 q2, by simp [n1, n2]⟩
end
end
def rpX (d : PyData) : Bool := match d with
  | .tuple _ => true
  | .dict _ => true
  | _ => false
def gReprX : GL := fun ss h => match gRepr ss h with
  | some z => some z
  | none => match ss with
    | [.val d] => if rpX d && lfr d && decide (d.depth ≤ 60) && d.showable && decide (d.shown.length ≤ 16777216) then some (.str d.shown) else none
    | _ => none
theorem call_reprX (hg : X.A.guards = some []) (hu : X.A.units + 65 < cLine) : CallR X (.builtin "repr") fun xs H Q => ∃ v d M, xs = [v] ∧ Rp X.K H M v d ∧ rpX d = true ∧ lfr d = true ∧ d.depth ≤ 60 ∧ d.showable = true ∧ d.shown.length ≤ sizeLine ∧ Q (.str d.shown) H := by
  rintro pins s σ H xs us Q I r ⟨v, d, M, rfl, hd, rx, lf, dp, sh, hz, q⟩
  obtain ⟨u, rfl, ru⟩ := Vals.one r
  obtain ⟨as, rr, ns⟩ := Rp.readsD I d v u lf hd ru
  obtain ⟨a, rfl⟩ : ∃ a, u = .ref a := by
    cases d with
    | tuple _ => cases hd; cases ru; exact ⟨_, rfl⟩
    | dict _ => cases hd; cases ru; exact ⟨_, rfl⟩
    | none => cases rx
    | bool _ => cases rx
    | int _ => cases rx
    | str _ => cases rx
    | list _ => cases rx
  exact repr_of_reads' rr sh (fun _ => ns) hg (by omega) (fun _ _ e => e) (fun h' t tk hk => ⟨.str d.shown, H, I.kept (t' := tk) hk, ⟨_, rfl⟩, q⟩) hz
theorem c_reprX (hg : X.A.guards = some []) (hu : X.A.units + 65 < cLine) : CallR X (.builtin "repr") (rdC X.K C gReprX) := fun pins s σ H xs us Q I r ⟨ρ, h, ss, d, S, r1, e, k⟩ => by
  unfold gReprX at e
  split at e
  · rename_i z ez
    cases e
    exact c_repr hg hu pins s σ H xs us Q I r ⟨ρ, h, ss, _, S, r1, ez, k⟩
  · split at e
    · rename_i z hnz
      split at e
      · rename_i c
        simp only [Bool.and_eq_true, decide_eq_true_eq] at c
        obtain ⟨⟨⟨⟨c1, c2⟩, c3⟩, c4⟩, c5⟩ := c
        cases e
        obtain ⟨y, rfl, ry⟩ := SlVs.one r1
        exact call_reprX hg hu pins s σ H _ us Q I r ⟨y, z, _, rfl, ry, c1, c2, c3, c4, by rw [sizeLine_eq]; exact c5, k _ H (Ex.refl _ _ _) S (.str _)⟩
      · cases e
    · cases e
end
/-! ### reckoning -/
theorem v_reprXo {ss : List Sl} {h : Hs} {z : PyData} (e : gRepr ss h = some z) : gReprX ss h = some z := by unfold gReprX; rw [e]
theorem v_reprX {w k : Nat} {d : PyData} {s : Sl} {h : Hs} (e : dat s h = some d) (r : Rk w k d) (hk : k ≤ 64) (hw : w ≤ 16777216) : gReprX [s] h = some (.str d.shown) := v_reprXo (v_repr e r hk hw)
@[simp] theorem v_mulI {i j : Int} {h : Hs} : gMul (.val (.int i)) (.val (.int j)) h = fMul i j := id rfl
theorem v_mulT {a : List PyData} {k : Nat} {h : Hs} (h1 : a ≠ []) (h2 : 2 ≤ k) (h3 : k ≤ 1000) (h4 : a.length ≤ 1000) : gMul (.val (.tuple a)) (.val (.int k)) h = some (.tuple (List.replicate k a).flatten) := by
  show (if a ≠ [] ∧ 2 ≤ (k : Int) ∧ (k : Int) ≤ 1000 ∧ a.length ≤ 1000 then _ else none) = _
  rw [if_pos ⟨h1, by omega, by omega, h4⟩, Int.toNat_natCast]
theorem v_indexD {ds : List PyData} {d : PyData} {h : Hs} (h1 : shp (.list ds) = true) (h2 : shp d = true) (h3 : (ds.any fun z => PyData.eqv z d) = true) : mIndexD (.val (.list ds)) [.val d] h = some (.int (ds.findIdx (fun z => PyData.eqv z d) : Nat), h) := by
  show (if shp (.list ds) && shp d && (ds.any fun z => PyData.eqv z d) then _ else none) = _
  rw [h1, h2, h3]
  rfl
end FL

namespace FL
open PySem PySem.Spec PyProof.Rows L2
/-! ### calls with keywords and defaults -/
/-- what stands at a parameter: the i-th value that is handed over, or the j-th default that is left out -/
inductive Ar where
  | ix (i : Nat)
  | df (j : Nat) (d : PyData)
def arX {α : Type} (z : α) (xs mv : List α) : Ar → α
  | .ix i => xs.getD i z
  | .df j _ => mv.getD j z
def arS (ss : List Sl) : Ar → Sl
  | .ix i => ss.getD i (.val .none)
  | .df _ d => .val d
abbrev Shp := Nat × List Str × List Ar
def Shape (K : PySem.W.Frag) (fd : FuncData) (ps : List Str) (sh : Shp) : Prop :=
  ∃ (mv : List Value) (mz : List V), Vals mz mv ∧ (∀ j d, Ar.df j d ∈ sh.2.2 → ∀ H M, Rp K H M (mz.getD j .non) d) ∧
    ∀ (s : Shared) (us ws : List Value), K.In s.heap → us.length = sh.1 → ws.length = sh.2.1.length → BindsTo s fd ⟨us, sh.2.1.zip ws⟩ (ps.zip (sh.2.2.map (arX .none (us ++ ws) mv)))
theorem Vals.getD {vs : List V} {us : List Value} (r : Vals vs us) (i : Nat) : RelV (vs.getD i .non) (us.getD i .none) := by
  induction r generalizing i with
  | nil => exact rfl
  | cons h t ih =>
    cases i with
    | zero => exact h
    | succ i => exact ih i
theorem vals_ar {vs mz : List V} {us mv : List Value} (r : Vals vs us) (q : Vals mz mv) : ∀ T : List Ar, Vals (T.map (arX .non vs mz)) (T.map (arX .none us mv))
  | [] => .nil
  | .ix i :: T => .cons (Vals.getD r i) (vals_ar r q T)
  | .df j _ :: T => .cons (Vals.getD q j) (vals_ar r q T)
theorem SlVs.getD {K : PySem.W.Frag} {C : Fc} {ρ : Fps} {H : Hp} {vs : List V} {ss : List Sl} (r : SlVs K C ρ H vs ss) (i : Nat) : SlV K C ρ H (vs.getD i .non) (ss.getD i (.val .none)) := by
  induction r generalizing i with
  | nil => exact Rp.non
  | cons h t ih =>
    cases i with
    | zero => exact h
    | succ i => exact ih i
theorem slvs_ar {K : PySem.W.Frag} {C : Fc} {ρ : Fps} {H : Hp} {vs mz : List V} {ss : List Sl} (r : SlVs K C ρ H vs ss) : ∀ T : List Ar, (∀ j d, Ar.df j d ∈ T → ∀ H M, Rp K H M (mz.getD j .non) d) → SlVs K C ρ H (T.map (arX .non vs mz)) (T.map (arS ss))
  | [], _ => .nil
  | .ix i :: T, h => .cons (SlVs.getD r i) (slvs_ar r T fun j d m => h j d (List.mem_cons_of_mem _ m))
  | .df j d :: T, h => .cons (h j d List.mem_cons_self H _) (slvs_ar r T fun j d m => h j d (List.mem_cons_of_mem _ m))
def callA (m : Fm) (io : List Bool) (fr : Bool) (sh : Shp) (ss ts : List Sl) (h : Hs) : Rz Sl := if ss.length = sh.1 ∧ ts.length = sh.2.1.length then callF m io fr (sh.2.2.map (arS (ss ++ ts))) h else .bad
def eCallA (m : Fm) (io : List Bool) (fr : Bool) (sh : Shp) (fa fk : Av) : Ev := fun env h => (fa env h).bind fun ss h => (fk env h).bind fun ts h => callA m io fr sh ss ts h
abbrev FK (X : Cx) (C : Fc) (Wx : WX) (ks : List Keyword) (f : Av) : Prop := PK X ks (rd X.K X.mg C Wx (relA X.K C) f)
theorem Vals.app {vs zs : List V} {us ws : List Value} (r : Vals vs us) (q : Vals zs ws) : Vals (vs ++ zs) (us ++ ws) := by
  induction r with
  | nil => exact q
  | cons h t ih => exact .cons h ih
theorem SlVs.app {K : PySem.W.Frag} {C : Fc} {ρ : Fps} {H : Hp} {vs zs : List V} {ss ts : List Sl} (r : SlVs K C ρ H vs ss) (q : SlVs K C ρ H zs ts) : SlVs K C ρ H (vs ++ zs) (ss ++ ts) := by
  induction r with
  | nil => exact q
  | cons h t ih => exact .cons h ih
theorem SlVs.len {K : PySem.W.Frag} {C : Fc} {ρ : Fps} {H : Hp} {vs : List V} {ss : List Sl} (r : SlVs K C ρ H vs ss) : vs.length = ss.length := Paired.length r
theorem SlVs.exs {K : PySem.W.Frag} {C : Fc} {ρ ρ' : Fps} {H H' : Hp} (x : Ex C ρ H ρ' H') {vs : List V} {ss : List Sl} (r : SlVs K C ρ H vs ss) : SlVs K C ρ' H' vs ss := by
  induction r with
  | nil => exact .nil
  | cons h t ih => exact .cons (SlV.ex x h) ih
section
variable {X : Cx} {C : Fc} {Wx : WX} {k : Nat} {f : Addr} {fd : FuncData} {ps : List Str} {m : Fm} {io : List Bool} {fr : Bool} {x : Str} {p pos kpos : Pos} {e : Expr} {es : List Expr} {fa fk g : Av} {fe : Ev} {kws : List Keyword} {nm : Option Str} {sh : Shp}
theorem fk_nil : FK X C Wx [] aNil := ⟨fun pos pins s σ H Q I ⟨ρ, env, h, S, E, P⟩ => pk_nil.run pos pins s σ H Q I (P ρ [] H (Ex.refl _ _ _) S .nil)⟩
theorem fk_cons (ha : FE X C Wx e fe) (hr : FK X C Wx kws g) : FK X C Wx (⟨nm, e, kpos⟩ :: kws) (aCons fe g) := ⟨fun pos pins s σ H Q I p => (pk_cons (nm := nm) (kpos := kpos) ha hr).run pos pins s σ H Q I (by
  refine rd.bind (f := fe) (g := fun s env h => (g env h).bind fun ss h => .ok (s :: ss) h) p fun ρ1 env h1 s x H1 S1 E1 r1 P1 => ?_
  refine rd.of (env := env) (h := h1) S1 E1 ?_
  cases q : g env h1 with
  | err y h2 => rw [q] at P1; exact P1
  | bad => rw [q] at P1; exact P1
  | ok ss h2 =>
    intro ρ2 ys H2 x2 S2 r2
    rw [q] at P1
    exact P1 ρ2 (x :: ys) H2 x2 S2 (.cons (SlV.ex x2 r1) r2))⟩
theorem run_fnA {pins : List (Addr × Obj)} {σ : St} {H : Hp} {s : Shared} {Q : VK} {us ws zs : List Value} {ks : List Str} {vs : List V} {sp : Sp} (F : FnG X.prog X.w X.K X.mg X.base (L2.CX X.prog X.w) k f fd ps sp) (hgd : X.A.guards = some []) (hr : Room k X.A) (b : BindsTo s fd ⟨us, ks.zip ws⟩ (ps.zip zs)) (tk : Takes X Wx)
    (I : Inv X pins σ H s) (r : Vals vs zs) (h : sp vs H Q fun cls d H' => Wx cls d σ H') : wpAny (model X.prog X.w) X.A (call (.ref f) us (ks.zip ws)) (EP X pins σ Q) X.xe s := by
  refine wpAny_call (codeAny_mono (F.run X.A X.stack s H ⟨us, ks.zip ws⟩ zs vs Q _ hgd hr I.env0 b r h) ?_)
  rintro (er | fl) s' hq
  · exact tk _ s' (XE.of_call I (fun _ _ _ w => w) hq)
  · cases fl with
    | ret u => exact I.after hq
    | _ => exact False.elim hq
/-- f(e, ..), some left out -/
theorem fe_callA {T : List (Addr × Str)} (F : FnG X.prog X.w X.K X.mg X.base (L2.CX X.prog X.w) k f fd ps (spOf X.K X.mg T fr io m)) (hT : C.T = T) (hgd : X.A.guards = some []) (hr : Room k X.A) (tk : Takes X Wx) (hg : Gl X x) (hm : X.mg x = some (.ref f)) (hk : PySem.W.keepIn X.K (.ref f) = true) (hb : Shape X.K fd ps sh) (h0 : sh.2.1 = [])
    (ha : FA X C Wx (e :: es) fa) (hdb : (x == ("__debug__" : Str)) = false := by decide) (he : starEach (e :: es) X.env = (false, eval e X.env) :: starEach es X.env := by rfl) (hpl : (backTo pos (starEach es X.env)).any (·.1) = false := by rfl) :
    FE X C Wx (.Call (.Name x p) (e :: es) [] pos) (eCallA m io fr sh fa aNil) := by
  obtain ⟨mv, mz, vm, hd, bt⟩ := hb
  subst hT
  refine ⟨fun pins s σ H Q I hh => wpAny_Call_Name_kw (ld_glob I hg hm ?_ hdb)⟩
  have h2 : rd X.K X.mg C Wx (relA X.K C) fa σ H fun vs H1 => vs.length = sh.1 ∧ spOf X.K X.mg C.T fr io m (sh.2.2.map (arX .non vs mz)) H1 Q fun cls d H' => Wx cls d σ H' := rd.bind (f := fa) (g := fun ss env h => (aNil env h).bind fun ts h => callA m io fr sh ss ts h) hh fun ρ1 env h1 ss vs H1 S1 E1 r1 P1 => by
    have P2 : Po X.K X.mg C Wx σ ρ1 H1 (relE X.K C) (if ss.length = sh.1 ∧ ([] : List Sl).length = sh.2.1.length then callF m io fr (sh.2.2.map (arS (ss ++ []))) h1 else .bad) Q := P1
    split at P2
    · rename_i hl
      rw [List.append_nil] at P2
      exact ⟨r1.len.trans hl.1, sp_call S1 (slvs_ar r1 _ hd) P2⟩
    · exact P2.elim
  refine PySem.W.callWith_K (h₀ := X.base) I.ok.mod.kin hk (thn (ha.run pos pins s σ H _ I h2) ?_) he hpl
  rintro us s1 ⟨vs, H1, I1, r, hl, q⟩
  have b := bt s1 us [] I1.kIn (r.length.symm.trans hl) (by rw [h0]; rfl)
  rw [List.append_nil] at b
  have := run_fnA (ks := sh.2.1) (ws := []) F hgd hr b tk I1 (vals_ar r vm _) q
  rw [List.zip_nil_right] at this
  exact ⟨I1.kIn, this⟩
/-- f(e, .., k = v, ..) -/
theorem fe_callAK {T : List (Addr × Str)} {kw : Keyword} (F : FnG X.prog X.w X.K X.mg X.base (L2.CX X.prog X.w) k f fd ps (spOf X.K X.mg T fr io m)) (hT : C.T = T) (hgd : X.A.guards = some []) (hr : Room k X.A) (tk : Takes X Wx) (hg : Gl X x) (hm : X.mg x = some (.ref f)) (hk : PySem.W.keepIn X.K (.ref f) = true) (hb : Shape X.K fd ps sh)
    (ha : FA X C Wx (e :: es) fa) (hkw : FK X C Wx (kw :: kws) fk) (hall : (backToKw pos (keywordEach (kw :: kws) X.env)).all (·.1.isSome) = true := by rfl) (hks : (backToKw pos (keywordEach (kw :: kws) X.env)).filterMap (·.1) = sh.2.1 := by rfl)
    (hdb : (x == ("__debug__" : Str)) = false := by decide) (he : starEach (e :: es) X.env = (false, eval e X.env) :: starEach es X.env := by rfl)
    (hpl : ((backTo pos (starEach (e :: es) X.env)).any (·.1) || (backToKw pos (keywordEach (kw :: kws) X.env)).any (·.1.isNone)) = false := by rfl) :
    FE X C Wx (.Call (.Name x p) (e :: es) (kw :: kws) pos) (eCallA m io fr sh fa fk) := by
  obtain ⟨mv, mz, vm, hd, bt⟩ := hb
  subst hT
  refine ⟨fun pins s σ H Q I hh => wpAny_Call_Name_kw (ld_glob I hg hm ?_ hdb)⟩
  have h2 : rd X.K X.mg C Wx (relA X.K C) fa σ H fun vs H1 => rd X.K X.mg C Wx (relA X.K C) fk σ H1 fun zs H2 => vs.length = sh.1 ∧ zs.length = sh.2.1.length ∧ spOf X.K X.mg C.T fr io m (sh.2.2.map (arX .non (vs ++ zs) mz)) H2 Q fun cls d H' => Wx cls d σ H' :=
    rd.bind (f := fa) (g := fun ss env h => (fk env h).bind fun ts h => callA m io fr sh ss ts h) hh fun ρ1 env h1 ss vs H1 S1 E1 r1 P1 => by
      refine rd.of (env := env) (h := h1) S1 E1 ?_
      cases q : fk env h1 with
      | err y h2 => rw [q] at P1; exact P1
      | bad => rw [q] at P1; exact P1
      | ok ts h2 =>
        intro ρ2 zs H2 x2 S2 r2
        rw [q, v_bind] at P1
        have P2 := Po.ex x2 P1
        unfold callA at P2
        split at P2
        · rename_i hl
          have r1' : SlVs X.K C ρ2 H2 vs ss := SlVs.exs x2 r1
          exact ⟨r1.len.trans hl.1, r2.len.trans hl.2, sp_call S2 (slvs_ar (SlVs.app r1' r2) _ hd) P2⟩
        · exact P2.elim
  refine PySem.W.callWith_KW (h₀ := X.base) I.ok.mod.kin hk hall (thn (ha.run pos pins s σ H _ I h2) ?_) hpl he
  rintro us s1 ⟨vs, H1, I1, r, q⟩
  refine thn (hkw.run pos pins s1 σ H1 _ I1 q) ?_
  rintro ws s2 ⟨zs, H2, I2, rz, l1, l2, q2⟩
  have b := bt s2 us ws I2.kIn (r.length.symm.trans l1) (rz.length.symm.trans l2)
  rw [hks]
  exact ⟨I2.kIn, run_fnA F hgd hr b tk I2 (vals_ar (FL.Vals.app r rz) vm _) q2⟩
/-- f(k = v, ..) -/
theorem fe_callK0 {T : List (Addr × Str)} {kw : Keyword} (F : FnG X.prog X.w X.K X.mg X.base (L2.CX X.prog X.w) k f fd ps (spOf X.K X.mg T fr io m)) (hT : C.T = T) (hgd : X.A.guards = some []) (hr : Room k X.A) (tk : Takes X Wx) (hg : Gl X x) (hm : X.mg x = some (.ref f)) (hk : PySem.W.keepIn X.K (.ref f) = true) (hb : Shape X.K fd ps sh)
    (hkw : FK X C Wx (kw :: kws) fk) (hall : (backToKw pos (keywordEach (kw :: kws) X.env)).all (·.1.isSome) = true := by rfl) (hks : (backToKw pos (keywordEach (kw :: kws) X.env)).filterMap (·.1) = sh.2.1 := by rfl)
    (hdb : (x == ("__debug__" : Str)) = false := by decide)
    (hpl : ((backTo pos (starEach [] X.env)).any (·.1) || (backToKw pos (keywordEach (kw :: kws) X.env)).any (·.1.isNone)) = false := by rfl) :
    FE X C Wx (.Call (.Name x p) [] (kw :: kws) pos) (eCallA m io fr sh aNil fk) := by
  obtain ⟨mv, mz, vm, hd, bt⟩ := hb
  subst hT
  refine ⟨fun pins s σ H Q I hh => wpAny_Call_Name_kw (ld_glob I hg hm ?_ hdb)⟩
  have h2 : rd X.K X.mg C Wx (relA X.K C) fk σ H fun zs H2 => 0 = sh.1 ∧ zs.length = sh.2.1.length ∧ spOf X.K X.mg C.T fr io m (sh.2.2.map (arX .non zs mz)) H2 Q fun cls d H' => Wx cls d σ H' :=
    rd.bind (f := fk) (g := fun ts env h => callA m io fr sh [] ts h) hh fun ρ2 env h2 ts zs H2 S2 E2 r2 P2 => by
      unfold callA at P2
      split at P2
      · rename_i hl
        exact ⟨hl.1, r2.len.trans hl.2, sp_call S2 (slvs_ar r2 _ hd) P2⟩
      · exact P2.elim
  refine PySem.W.callWith_KW0 (h₀ := X.base) I.ok.mod.kin hk hall (thn (hkw.run pos pins s σ H _ I h2) ?_) hpl
  rintro ws s2 ⟨zs, H2, I2, rz, l1, l2, q2⟩
  have b := bt s2 [] ws I2.kIn l1 (rz.length.symm.trans l2)
  rw [hks]
  exact ⟨I2.kIn, run_fnA (us := []) F hgd hr b tk I2 (vals_ar rz vm _) q2⟩
end
/-! ### how defs bind -/
/-- a keyword-only default that K holds -/
def dfB (K : PySem.W.Frag) (kV : Value) (x : Str) (d : PyData) : Bool := match kV with
  | .ref D => match PySem.W.nsIn K D x with
    | some (some u) => match u, d with
      | .int i _, .int j => decide (i = j)
      | .str a _, .str b => decide (a = b)
      | .none, .none => true
      | .ref a, .tuple [] => match K.lookup a with
        | some ⟨.type c, _, .seq its _, _⟩ => decide (c = "tuple") && its.isEmpty
        | _ => false
      | _, _ => false
    | _ => false
  | _ => false
def KwD (K : PySem.W.Frag) (fd : FuncData) (l : List (Str × PyData)) : Prop := l = [] ∨ ∃ D : Addr, fd.kwdefaults = .ref D ∧ ∀ q ∈ l, ∃ (u : Value) (v : V), PySem.W.nsIn K D q.1 = some (some u) ∧ RelV v u ∧ ∀ H M, Rp K H M v q.2
theorem dfB_ok {K : PySem.W.Frag} {kV : Value} {x : Str} {d : PyData} (h : dfB K kV x d = true) : ∃ D : Addr, kV = .ref D ∧ ∃ (u : Value) (v : V), PySem.W.nsIn K D x = some (some u) ∧ RelV v u ∧ ∀ H M, Rp K H M v d := by
  unfold dfB at h
  split at h
  · rename_i D
    refine ⟨D, rfl, ?_⟩
    split at h
    · rename_i u e
      refine ⟨u, ?_⟩
      split at h
      · rename_i i t j
        have : i = j := of_decide_eq_true h
        subst this
        exact ⟨.int i, e, ⟨t, rfl⟩, fun H M => .int i⟩
      · rename_i a t b
        have : a = b := of_decide_eq_true h
        subst this
        exact ⟨.str a, e, ⟨t, rfl⟩, fun H M => .str a⟩
      · exact ⟨.non, e, rfl, fun H M => .non⟩
      · rename_i a
        split at h
        · rename_i c od its n sl lk
          rw [Bool.and_eq_true] at h
          have hc : c = "tuple" := of_decide_eq_true h.1
          have hi : its = #[] := Array.isEmpty_iff.mp h.2
          subst hc hi
          exact ⟨.ref a, e, rfl, fun H M => .tup (.inr ⟨_, _, _, lk, rfl, rfl, by simp, .nil⟩) .nil⟩
        · cases h
      · cases h
    · cases h
  · cases h
section
variable {K : PySem.W.Frag} {x qual : Str} {st : Stmt} {f : Addr} {fd : FuncData} {ps : List Str} {sh : Shp} {dl : List (Str × PyData)}
/-- nothing is left out -/
theorem shape_all (F : Fun K x qual st f fd) (h : ∀ (kV doc pm : Value) (an : Option Addr) (cdv ct : Value) (us ws : List Value), us.length = sh.1 → ws.length = sh.2.1.length →
      bindArgs (PySem.W.fnOf x qual (defArgs st) (defBody st) (defScope st) .none kV doc pm an cdv ct) ⟨us, sh.2.1.zip ws⟩ = pure (ps.zip (sh.2.2.map (arX .none (us ++ ws) [])))) (hn : ∀ j d, Ar.df j d ∉ sh.2.2) : Shape K fd ps sh := by
  obtain ⟨oc, od, kV, doc, pm, an, cdv, ct, osl, rfl, lk, hcd⟩ := F.ex
  exact ⟨[], [], .nil, fun j d m => absurd m (hn j d), fun s us ws X l1 l2 => .of_eq (h kV doc pm an cdv ct us ws l1 l2)⟩
/-- some are left out -/
theorem shape_df (F : Fun K x qual st f fd) (kd : KwD K fd dl) (ms : List (Str × PyData)) (hms : ∀ q ∈ ms, q ∈ dl) (hne : dl ≠ []) (hT : ∀ j d, Ar.df j d ∈ sh.2.2 → ∃ y, ms[j]? = some (y, d))
    (h : ∀ (D : Addr) (doc pm : Value) (an : Option Addr) (cdv ct : Value) (us ws mv : List Value), us.length = sh.1 → ws.length = sh.2.1.length → mv.length = ms.length →
      KwChain D ((ms.map (·.1)).zip mv) (bindArgs (PySem.W.fnOf x qual (defArgs st) (defBody st) (defScope st) .none (.ref D) doc pm an cdv ct) ⟨us, sh.2.1.zip ws⟩) (ps.zip (sh.2.2.map (arX .none (us ++ ws) mv)))) : Shape K fd ps sh := by
  obtain ⟨oc, od, kV, doc, pm, an, cdv, ct, osl, rfl, lk, hcd⟩ := F.ex
  rcases kd with z | ⟨D, eD, hq⟩
  · exact absurd z hne
  have eD' : kV = .ref D := eD
  subst eD'
  have key : ∀ ms : List (Str × PyData), (∀ q ∈ ms, q ∈ dl) → ∃ (mv : List Value) (mz : List V), mv.length = ms.length ∧ Vals mz mv ∧ (∀ q ∈ (ms.map (·.1)).zip mv, PySem.W.nsIn K D q.1 = some (some q.2)) ∧ ∀ (j : Nat) (y : Str) (d : PyData), ms[j]? = some (y, d) → ∀ H M, Rp K H M (mz.getD j .non) d := by
    intro ms
    induction ms with
    | nil => exact fun _ => ⟨[], [], rfl, .nil, fun q m => (nomatch m), fun j y d e => by simp at e⟩
    | cons m ms ih =>
      intro hm
      obtain ⟨mv, mz, l, r, a, b⟩ := ih fun q hq => hm q (List.mem_cons_of_mem _ hq)
      obtain ⟨u, v, e1, e2, e3⟩ := hq m (hm m List.mem_cons_self)
      refine ⟨u :: mv, v :: mz, congrArg Nat.succ l, .cons e2 r, fun q hq => ?_, fun j y d e => ?_⟩
      · rcases List.mem_cons.mp (show q ∈ (m.1, u) :: (ms.map (·.1)).zip mv from hq) with z | z
        · rw [z]; exact e1
        · exact a q z
      · cases j with
        | zero =>
          have e' : m = (y, d) := by simpa using e
          subst e'
          exact e3
        | succ j => exact b j y d (by simpa using e)
  obtain ⟨mv, mz, l, r, a, b⟩ := key ms hms
  refine ⟨mv, mz, r, fun j d m => ?_, fun s us ws X l1 l2 => BindsTo.of_looks fun M => KwChain.looks X a (h D doc pm an cdv ct us ws mv l1 l2 l)⟩
  obtain ⟨y, e⟩ := hT j d m
  exact b j y d e
end
/-- a def that keeps its promise, by the shapes of its calls -/
structure CalK (P : Program) (w : World) (K : PySem.W.Frag) (mg : Str → Option Value) (base : Heap) (x : Str) (k : Nat) (ps : List Str) (sp : Sp) (shs : List Shp) : Prop where
  ex : ∃ (f : Addr) (fd : FuncData), FnG P w K mg base (L2.CX P w) k f fd ps sp ∧ mg x = some (.ref f) ∧ PySem.W.keepIn K (.ref f) = true ∧ ∀ sh ∈ shs, Shape K fd ps sh
/-! ### reckoning -/
section
variable {m : Fm} {io : List Bool} {fr : Bool} {sh : Shp} {fa fk : Av} {env : En} {h : Hs} {ss ts : List Sl}
@[simp] theorem v_callA : eCallA m io fr sh fa fk env h = (fa env h).bind fun ss h => (fk env h).bind fun ts h => callA m io fr sh ss ts h := id rfl
theorem callA_of (h1 : ss.length = sh.1) (h2 : ts.length = sh.2.1.length) : callA m io fr sh ss ts h = callF m io fr (sh.2.2.map (arS (ss ++ ts))) h := by unfold callA; rw [if_pos ⟨h1, h2⟩]
end
end FL

namespace FL
open PySem PySem.Spec PyProof.Rows L2
/-! ### what is never come to -/
def eNever : Ev := fun _ _ => .bad
theorem fe_never {X : Cx} {C : Fc} {Wx : WX} {e : Expr} : FE X C Wx e eNever := ⟨fun pins s σ H Q I ⟨ρ, env, h, S, E, P⟩ => P.elim⟩
/-! ### a def of the law that is handed the held exception on -/
def eCallW (i : Nat) (mw : Exn → Option PyData) : Ev := fun env h => match env[i]? with
  | some (some (.exn x)) => match mw x with
    | some d => .ok (.val d) h
    | none => .bad
  | _ => .bad
section
variable {X : Cx} {C : Fc} {Wx : WX}
theorem fe_callW {T : List (Addr × Str)} {p : Addr × Obj} {x : Exn} {D : Addr} {i kw : Nat} {fw : Addr} {fdw : FuncData} {pw n x0 : Str} {ys : List Str} {mw : Exn → Option PyData} {p1 p2 pos : Pos} (hh : Held X C p x D) (hx : KxOk X.K X.mg ys x D) (FW : FnW X.prog X.w X.K X.mg X.base T kw fw fdw pw ys mw) (hT : C.T = T) (hgd : X.A.guards = some []) (hr : L2H.RoomH kw X.A)
    (hb : Binds X.K fdw [pw] []) (hg : Gl X x0) (hm : X.mg x0 = some (.ref fw)) (hk : PySem.W.keepIn X.K (.ref fw) = true)
    (hN : X.N[i]? = some n := by rfl) (hv : Vis X.env.scope n := by first | exact Or.inl rfl | exact Or.inr (Or.inl rfl) | exact Or.inr (Or.inr rfl)) (hd : (n == ("__debug__" : Str)) = false := by decide) (hcd : (n == ("__classdict__" : Str)) = false := by decide) (hdb : (x0 == ("__debug__" : Str)) = false := by decide)
    (he : starEach [.Name n p2] X.env = (false, eval (.Name n p2) X.env) :: starEach [] X.env := by rfl) (hpl : (backTo pos (starEach [] X.env)).any (·.1) = false := by rfl) :
    FE X C Wx (.Call (.Name x0 p1) [.Name n p2] [] pos) (eCallW i mw) := by
  subst hT
  constructor
  rintro pins s σ H Q I ⟨ρ, env, h, S, E, P⟩
  unfold eCallW at P
  split at P
  · rename_i z ez
    obtain ⟨v, e1, a, e2, rfl⟩ := E.at_ i _ ez
    rw [hh.exc] at e2
    cases e2
    cases em : mw x with
    | none => rw [em] at P; exact P.elim
    | some d =>
      rw [em] at P
      refine wpAny_Call_Name_kw (ld_glob I hg hm ?_ hdb)
      have hA : PA X [.Name n p2] (tCons (tVar i) tNil) := pa_cons (pe_var hN hv hd hcd) pa_nil he
      refine PySem.W.callWith_K (h₀ := X.base) I.ok.mod.kin hk (thn (hA.run pos pins s σ H (fun vs G1 => vs = [.ref p.1] ∧ G1 = H) I ⟨_, e1, rfl, rfl⟩) ?_) he hpl
      rintro us s1 ⟨vs, G1, I1, r, rfl, rfl⟩
      obtain ⟨u, rfl, ru⟩ := Vals.one r
      cases (show u = Value.ref p.1 from ru)
      have P1 := I1.pin p (List.mem_append_left _ hh.pin)
      have pin : L2H.PinOk X.stack G1 s1 p := ⟨P1.1, P1.2.1, fun z => (List.mem_cons.mp (I1.stkSub p.1 z)).elim P1.2.2.1 P1.2.2.2.1, P1.2.2.2.2⟩
      have b := hb s1 [.ref p.1] I1.kIn rfl
      have hB : ∀ b, Mo C ρ b → ∃ o, G1 b = some o := fun b m => by
        rcases m with m | m
        · exact S.trk b m
        · exact (S.bar b m).2
      refine ⟨I1.kIn, wpAny_call (codeAny_mono (FW.run X.A X.stack s1 G1 p x D d Q (Mo C ρ) hB hgd hr pin hh.z hh.f hx I1.env0 S.tab b em fun v H' fk rv => ?_) ?_)⟩
      · obtain ⟨S', st⟩ := call_after (C2 := { C with Bar := fun a => C.Bar a ∨ False }) (D := fun _ => False) (ad := []) (vr := []) (ns := []) (vw := []) (os' := []) S .nil .nil (fun a m => nomatch m) (by simp) (by simp) fk ⟨rfl, fun n a o e _ => by simp at e⟩ (.inl rfl) rfl (fun _ z => z.elim) (fun _ z => z.elim)
        have eC : ({ C with Bar := fun a => C.Bar a ∨ False } : Fc) = C := by
          cases C
          simp
        rw [eC] at S' st
        exact P ρ v H' ⟨st, fun n fp e => ⟨fp, e, pfx_rfl⟩⟩ S' rv
      · rintro (er | fl) s' h'
        · obtain ⟨_, _, _, _, _, _, _, _, _, _, _, _, z⟩ := h'
          exact z.elim
        · cases fl with
          | ret u => exact I1.after h'
          | _ => exact False.elim h'
  · exact P.elim
end
/-! ### len(set(x)) of whole numbers -/
def ddI (ns : List Int) : List Int := ns.foldl (fun acc n => if acc.any (· == n) then acc else acc ++ [n]) []
def gLenSet : Sl → Hs → Option PyData := fun s h => match (litems s h).bind ints? with
  | some ns => if ns.length ≤ 4000 then some (.int ((ddI ns).length : Nat)) else none
  | none => none
theorem firstMet_dd (ns : List Int) : ∀ i, i ≤ ns.length → PyProof.Rows.firstMet (fun i => ns.getD i 0) i = ddI (ns.take i)
  | 0, _ => rfl
  | i + 1, hi => by
    have hlt : i < ns.length := hi
    have e1 : ns.getD i 0 = ns[i] := by
      rw [List.getD_eq_getElem?_getD, List.getElem?_eq_getElem hlt] <;> rfl
    have e2 : ns.take (i + 1) = ns.take i ++ [ns[i]] := by
      rw [List.take_add_one, List.getElem?_eq_getElem hlt] <;> rfl
    rw [PyProof.Rows.firstMet_succ, firstMet_dd ns i (Nat.le_of_lt hlt), e2]
    unfold ddI
    rw [List.foldl_append]
    show (if (ddI (ns.take i)).any (· == ns.getD i 0) then ddI (ns.take i) else ddI (ns.take i) ++ [ns.getD i 0]) = _
    rw [e1]
    rfl
theorem ddI_len (ns : List Int) : (ddI ns).length ≤ ns.length := by
  have : ∀ (ns acc : List Int), (ns.foldl (fun acc n => if acc.any (· == n) then acc else acc ++ [n]) acc).length ≤ acc.length + ns.length := by
    intro ns
    induction ns with
    | nil => intro acc; simp
    | cons n ns ih =>
      intro acc
      rw [List.foldl_cons, List.length_cons]
      refine Nat.le_trans (ih _) ?_
      split
      · omega
      · rw [List.length_append, List.length_singleton]
        omega
  have := this ns []
  rw [List.length_nil, Nat.zero_add] at this
  exact this
def tLenSetX (K : PySem.W.Frag) (ta : TE) : TE := fun σ H Q => ta σ H fun x H1 => ∃ (l : Addr) (ns : List Int), x = .ref l ∧ SqL K H1 l (ns.map V.int) ∧ ns.length ≤ 4000 ∧ Q (.int ((ddI ns).length : Nat)) H1
theorem pe_lenSetX {X : Cx} {a : Expr} {ta : TE} {p p2 q pos : Pos} (hg : Gl X "len") (hm : X.mg "len" = none) (hg2 : Gl X "set") (hm2 : X.mg "set" = none) (ha : PE X a ta) (hc : X.calm = true := by rfl)
    (na : starEach [a] X.env = (false, eval a X.env) :: starEach [] X.env := by rfl) : PE X (.Call (.Name "len" p) [.Call (.Name "set" p2) [a] [] q] [] pos) (tLenSetX X.K ta) := by
  refine ⟨fun pins s σ H Q I h => ?_⟩
  refine Call_ (ld_blt I hg hm PySem.boot_len ?_)
  refine PyProof.Rows.callWith_builtin1 (PyProof.Rows.args_cons ?_ rfl) rfl rfl
  refine Call_ (ld_blt I hg2 hm2 PyProof.Rows.boot_set ?_)
  refine PyProof.Rows.callWith_type1 (PyProof.Rows.args_cons (thn (ha.run pins s σ H _ I h) fun v s1 ⟨x, H1, I1, r1, q1⟩ => PyProof.Rows.args_nil ?_) na) na rfl
  obtain ⟨l, ns, rfl, hq, hl, q1⟩ := q1
  cases r1
  obtain ⟨its, r, pl, hz⟩ := I1.list hq
  have hlen : its.toArray.size = ns.length := by rw [List.size_toArray, ← r.length, List.length_map]
  refine call_set_list (I1.ok.hd hc) pl.isList (by simpa using RZ.intsAre_vals r) (by rw [hlen]; unfold scanBound; omega) fun h' tk hS hk => ?_
  refine PyProof.Rows.args_nil ?_
  rw [hlen, firstMet_dd ns ns.length (Nat.le_refl _), List.take_length] at hS
  obtain ⟨o, es, ep, t, ho, hex, hd, _, _, _, hf, hn⟩ := hS
  have I2 : Inv X pins σ H1 { s1 with heap := h', toks := tk } := I1.kept fun b o e => hk b o (Heap.lt_size e) e
  have := ddI_len ns
  exact call_len_set ho hex hd hf (by rw [hn] <;> omega) ⟨.int (ddI ns).length, H1, I2.tok _, ⟨_, by rw [hn]⟩, q1⟩
section
variable {X : Cx} {C : Fc} {Wx : WX}
theorem fe_lenSet {a : Expr} {f : Ev} {p p2 q pos : Pos} (hc : X.calm = true) (hg : Gl X "len") (hm : X.mg "len" = none) (hg2 : Gl X "set") (hm2 : X.mg "set" = none) (ha : FE X C Wx a f)
    (na : starEach [a] X.env = (false, eval a X.env) :: starEach [] X.env := by rfl) : FE X C Wx (.Call (.Name "len" p) [.Call (.Name "set" p2) [a] [] q] [] pos) (cUn gLenSet f) := PE.imp (pe_lenSetX hg hm hg2 hm2 ha hc na) fun σ H Q p => by
  refine rd.bind (f := f) (g := fun s env h => .give (gLenSet s h) h) p fun ρ1 env h1 s x H1 S1 E1 r1 P1 => ?_
  unfold gLenSet at P1
  cases e1 : (litems s h1).bind ints? with
  | none => rw [e1] at P1; exact P1.elim
  | some ns =>
    rw [e1] at P1
    dsimp only at P1
    split at P1
    · rename_i hl
      obtain ⟨ds, e2, e3⟩ := Option.bind_eq_some_iff.mp e1
      obtain ⟨a, vs, rfl, sq, ra⟩ := litems_rel S1 r1 e2
      have ev := ints_rel ra e3
      subst ev
      exact ⟨a, ns, rfl, sq, hl, P1 ρ1 _ H1 (Ex.refl _ _ _) S1 (.int _)⟩
    · exact P1.elim
/-! ### [x, ..] * k -/
def rep? (ss : List Sl) (t : Sl) : Option (List PyData) := match vals? ss, t with
  | some ds, .val (.int k) => if ds.length ≤ 16777216 ∧ -(2 ^ 63) ≤ k ∧ k < 2 ^ 63 ∧ ds.length * k.toNat ≤ 16777216 then some (List.replicate k.toNat ds).flatten else none
  | _, _ => none
def eRepG (g : List Sl → Sl → Hs → Rz Sl) (fa : Av) (fb : Ev) : Ev := fun env h => (fa env h).bind fun ss h => if ss.length ≤ 16777216 then (fb env h).bind fun t h => g ss t h else .bad
def gRep (ss : List Sl) (t : Sl) (h : Hs) : Rz Sl := .give ((rep? ss t).map .list) h
def gRepN (ss : List Sl) (t : Sl) (h : Hs) : Rz Sl := match rep? ss t with
  | some ds => .ok (.loc h.length) (h ++ [.lst ds])
  | none => .bad
theorem fe_repG {es : List Expr} {b : Expr} {fa : Av} {fb : Ev} {p pos : Pos} {g : List Sl → Sl → Hs → Rz Sl} (ha : FA X C Wx es fa) (hb : FE X C Wx b fb)
    (hg : ∀ (σ : St) (ρ : Fps) (h : Hs) (H : Hp) (ss : List Sl) (t : Sl) (vs : List V) (v : V) (Q : VK) (l : Addr), SimH X.K C ρ h H → SlVs X.K C ρ H vs ss → SlV X.K C ρ H v t → H l = some (.lst vs) → Po X.K X.mg C Wx σ ρ H (relE X.K C) (g ss t h) Q → rRep (.ref l) v H Q) :
    FE X C Wx (.BinOp (.List es p) .Mult b pos) (eRepG g fa fb) := PE.imp (pe_op op_rep (pe_lst ha) hb) fun σ H Q p => by
  refine rd.bind (f := fa) (g := fun ss env h => if ss.length ≤ 16777216 then (fb env h).bind fun t h => g ss t h else .bad) p fun ρ1 env h1 ss xs H1 S1 E1 r1 P1 => ?_
  split at P1
  · rename_i hl
    refine ⟨by rw [r1.len, sizeLine_eq]; exact hl, fun l hl' => ?_⟩
    have x1 : Ex C ρ1 H1 ρ1 (upd H1 l (.lst xs)) := Ex.laid S1 hl'
    refine rd.of (env := env) (h := h1) (S1.laid hl') (E1.ex x1) ?_
    have P2 := Po.ex x1 P1
    have nm : ¬ Mo C ρ1 l := fun m => by
      rcases m with m | m
      · obtain ⟨o, e⟩ := S1.trk l m
        rw [hl'] at e; cases e
      · obtain ⟨_, o, e⟩ := S1.bar l m
        rw [hl'] at e; cases e
    cases q : fb env h1 with
    | bad => rw [q] at P2; exact P2
    | err y h2 => rw [q] at P2; exact P2
    | ok t h2 =>
      intro ρ2 y H3 x2 S3 r3
      rw [q, v_bind] at P2
      have P3 := Po.ex x2 P2
      exact hg σ ρ2 h2 H3 ss t xs y Q l S3 (SlVs.exs x2 (SlVs.exs x1 r1)) r3 (x2.stp.keep (o := .lst xs) upd_same nm nt_lst) P3
  · exact P1.elim
theorem rep_rel {ρ : Fps} {H : Hp} {ss : List Sl} {t : Sl} {vs : List V} {v : V} {ds : List PyData} (r1 : SlVs X.K C ρ H vs ss) (r2 : SlV X.K C ρ H v t) (e : rep? ss t = some ds) : ∃ k : Int, v = .int k ∧ -(2 ^ 63) ≤ k ∧ k < 2 ^ 63 ∧ vs.length * k.toNat ≤ sizeLine ∧ RpAll X.K H (Mo C ρ) (List.replicate k.toNat vs).flatten ds := by
  unfold rep? at e
  split at e
  · rename_i d0 k ev
    split at e
    · rename_i c
      cases e
      cases (show Rp X.K H (Mo C ρ) v (.int k) from r2)
      have ra := vals_rel r1 ev
      exact ⟨k, rfl, c.2.1, c.2.2.1, by rw [ra.length, sizeLine_eq]; exact c.2.2.2, ra.flat _⟩
    · cases e
  · cases e
theorem fe_rep {es : List Expr} {b : Expr} {fa : Av} {fb : Ev} {p pos : Pos} (ha : FA X C Wx es fa) (hb : FE X C Wx b fb) : FE X C Wx (.BinOp (.List es p) .Mult b pos) (eRepG gRep fa fb) := fe_repG ha hb fun σ ρ h H ss t vs v Q l S r1 r2 e P => by
  unfold gRep at P
  cases q : rep? ss t with
  | none => rw [q] at P; exact P.elim
  | some ds =>
    rw [q] at P
    obtain ⟨k, rfl, h1, h2, h3, ra⟩ := rep_rel r1 r2 q
    exact ⟨l, k, vs, rfl, rfl, e, h1, h2, h3, fun p hp => P ρ _ _ (Ex.laid S hp) (S.laid hp) (Rp.newLst S hp ra)⟩
theorem fe_repN {es : List Expr} {b : Expr} {fa : Av} {fb : Ev} {p pos : Pos} (ha : FA X C Wx es fa) (hb : FE X C Wx b fb) : FE X C Wx (.BinOp (.List es p) .Mult b pos) (eRepG gRepN fa fb) := fe_repG ha hb fun σ ρ h H ss t vs v Q l S r1 r2 e P => by
  unfold gRepN at P
  cases q : rep? ss t with
  | none => rw [q] at P; exact P.elim
  | some ds =>
    rw [q] at P
    obtain ⟨k, rfl, h1, h2, h3, ra⟩ := rep_rel r1 r2 q
    refine ⟨l, k, vs, rfl, rfl, e, h1, h2, h3, fun p hp => P (ρ ++ [[p]]) (.ref p) _ (Ex.push hp) (push_lst S hp ra) ?_⟩
    rw [← S.len]
    exact SlV.pushed _
end
/-! ### reckoning -/
section
variable {env : En} {h : Hs} {fa : Av} {fb : Ev} {g : List Sl → Sl → Hs → Rz Sl} {i : Nat} {mw : Exn → Option PyData}
def repg? (g : List Sl → Sl → Hs → Rz Sl) (ss : List Sl) (r : Rz Sl) : Rz Sl := if ss.length ≤ 16777216 then r.bind fun t h => g ss t h else .bad
@[simp] theorem v_repG : eRepG g fa fb env h = (fa env h).bind fun ss h => repg? g ss (fb env h) := id rfl
@[simp] theorem v_rep1 {s t : Sl} {h1 : Hs} : repg? g [s] (.ok t h1) = g [s] t h1 := by
  show (if [s].length ≤ 16777216 then g [s] t h1 else .bad) = _
  rw [if_pos (by simp)]
theorem flat_rep : ∀ (k : Nat) (x : PyData), (List.replicate k [x]).flatten = List.replicate k x
  | 0, _ => rfl
  | k + 1, x => by rw [List.replicate_succ, List.replicate_succ, List.flatten_cons, flat_rep k x]; rfl
theorem v_gRep1 {x : PyData} {k : Nat} (hk : k ≤ 16777216) : gRep [.val x] (.val (.int k)) h = .ok (.val (.list (List.replicate k x))) h := by
  have e : rep? [.val x] (.val (.int k)) = some (List.replicate k x) := by
    have e0 : vals? [.val x] = some [x] := rfl
    have l1 : [x].length = 1 := rfl
    unfold rep?
    rw [e0]
    dsimp only
    rw [if_pos ⟨by rw [l1]; omega, by omega, by omega, by rw [l1, Int.toNat_natCast]; omega⟩, Int.toNat_natCast]
    exact congrArg some (flat_rep k x)
  unfold gRep
  rw [e]
  rfl
def callW? (o : Option PyData) (h : Hs) : Rz Sl := match o with
  | some d => .ok (.val d) h
  | none => .bad
end
/-! ### what stands twice -/
theorem dd_le (ns : List Int) : ∀ acc : List Int, (ns.foldl (fun acc n => if acc.any (· == n) then acc else acc ++ [n]) acc).length ≤ acc.length + ns.length := by
  induction ns with
  | nil => intro acc; simp
  | cons n ns ih =>
    intro acc
    rw [List.foldl_cons, List.length_cons]
    refine Nat.le_trans (ih _) ?_
    split
    · omega
    · rw [List.length_append, List.length_singleton]
      omega
theorem dd_iff (ns : List Int) : ∀ acc : List Int, acc.Nodup → ((ns.foldl (fun acc n => if acc.any (· == n) then acc else acc ++ [n]) acc).length = acc.length + ns.length ↔ (acc ++ ns).Nodup) := by
  induction ns with
  | nil => intro acc h; simp [h]
  | cons n ns ih =>
    intro acc h
    rw [List.foldl_cons, List.length_cons]
    by_cases q : acc.any (· == n) = true
    · rw [if_pos q]
      have := dd_le ns acc
      have hm : n ∈ acc := by simpa using q
      constructor
      · intro z; omega
      · intro z
        exact absurd rfl ((List.pairwise_append.mp z).2.2 n hm n List.mem_cons_self)
    · rw [if_neg q]
      have hm : n ∉ acc := by simpa using q
      have hn : (acc ++ [n]).Nodup := by
        refine List.pairwise_append.mpr ⟨h, by simp, fun a ha b hb => ?_⟩
        rw [List.mem_singleton.mp hb]
        exact fun z => hm (z ▸ ha)
      have := ih (acc ++ [n]) hn
      rw [List.length_append, List.length_singleton, List.append_assoc] at this
      rw [show acc.length + (ns.length + 1) = acc.length + 1 + ns.length by omega]
      exact this
theorem ddI_iff (ns : List Int) : (ddI ns).length = ns.length ↔ ns.Nodup := by
  have := dd_iff ns [] (by simp)
  rw [List.length_nil, Nat.zero_add, List.nil_append] at this
  exact this
@[simp] theorem v_lenSet {s : Sl} {h : Hs} : gLenSet s h = ((litems s h).bind ints?).bind fun ns => if ns.length ≤ 4000 then some (.int ((ddI ns).length : Nat)) else none := by
  unfold gLenSet
  cases (litems s h).bind ints? <;> rfl
end FL

namespace FL
open PySem PySem.Spec PyProof.Rows L2
/-! ### a, b, .. = x, y, .. by a tuple (names that are captured, or many) -/
def setAll : En → List Nat → List Sl → En
  | env, i :: is, s :: ss => setAll (env.set i (some s)) is ss
  | env, _, _ => env
def setV : St → List Nat → List V → St
  | σ, i :: is, v :: vs => setV (σ.set i (some v)) is vs
  | σ, _, _ => σ
def sParL (is : List Nat) (f : Av) : Sv := fun env h => (f env h).fl env fun ss h => if ss.length = is.length ∧ ss.length ≤ 16777216 then .next (setAll env is ss) h else .bad
theorem rds_names {K : PySem.W.Frag} : ∀ (is : List Nat) (vs : List V) (σ : St) (H : Hp) (Q : St → Hp → Prop), vs.length = is.length → Q (setV σ is vs) H → Tg.rds K (is.map Tg.nm) vs σ H Q
  | [], [], σ, H, Q, _, q => by
    rw [List.map_nil, Tg.rds]
    exact ⟨rfl, q⟩
  | i :: is, v :: vs, σ, H, Q, hl, q => by
    rw [List.map_cons, Tg.rds]
    refine ⟨v, vs, rfl, ?_⟩
    rw [Tg.rd]
    exact rds_names is vs _ H Q (by simpa using hl) q
  | [], _ :: _, _, _, _, hl, _ => by simp at hl
  | _ :: _, [], _, _, _, hl, _ => by simp at hl
theorem env_all {K : PySem.W.Frag} {C : Fc} {ρ : Fps} {H : Hp} : ∀ {is : List Nat} {ss : List Sl} {vs : List V} {env : En} {σ : St}, EnvOk K C ρ H env σ → SlVs K C ρ H vs ss → EnvOk K C ρ H (setAll env is ss) (setV σ is vs)
  | [], _, _, _, _, E, r => by
    cases r <;> exact E
  | i :: is, _, _, _, _, E, .nil => E
  | i :: is, s :: ss, v :: vs, env, σ, E, .cons h t => by
    show EnvOk K C ρ H (setAll (env.set i (some s)) is ss) (setV (σ.set i (some v)) is vs)
    exact env_all (E.set h i) t
section
variable {X : Cx} {C : Fc} {Wx : WX} {tg : Expr} {es : List Expr} {fa : Av} {pos : Pos} {kt : Nat} {is : List Nat}
theorem fs_parL {p2 : Pos} (ha : FA X C Wx es fa) (hg : FG X tg (.tp (is.map Tg.nm))) (hs : swapsWithSole [tg] (.Tuple es kt p2) pos.line X.env = pure false := by rfl) (hw : swappedStores [tg] (.Tuple es kt p2) X.env = pure none := by rfl)
    (h1 : (assignEach [tg] X.env).map (·.2) = [assign tg X.env] := by rfl) : FS X C Wx (.Assign [tg] (.Tuple es kt p2) pos) (sParL is fa) := PS.imp (ps_asg (pe_tup ha) hg hs hw h1) fun D σ H p => by
  refine rdS.bind (f := fa) (g := fun ss env h => if ss.length = is.length ∧ ss.length ≤ 16777216 then .next (setAll env is ss) h else .bad) p fun ρ1 env h1 ss vs H1 S1 E1 r1 P1 => ?_
  split at P1
  · rename_i hl
    refine ⟨by rw [r1.len, sizeLine_eq]; exact hl.2, fun q hq => ?_⟩
    rw [Tg.rd]
    have x1 : Ex C ρ1 H1 ρ1 (upd H1 q (.tup vs)) := Ex.laid S1 hq
    refine ⟨q, vs, rfl, .inl (.inl upd_same), by rw [List.length_map]; exact r1.len.trans hl.1, rds_names is vs σ _ _ (r1.len.trans hl.1) ?_⟩
    exact P1 ρ1 _ _ x1.stp (S1.laid hq) (env_all (E1.ex x1) (SlVs.exs x1 r1))
  · exact P1.elim
end
/-! ### reckoning -/
section
variable {env : En} {h : Hs} {fa : Av} {is : List Nat} {ss : List Sl}
def parL? (is : List Nat) (ss : List Sl) (env : En) (h : Hs) : Fl := if ss.length = is.length ∧ ss.length ≤ 16777216 then .next (setAll env is ss) h else .bad
@[simp] theorem v_parL : sParL is fa env h = (fa env h).fl env fun ss h => parL? is ss env h := id rfl
theorem parL_of (h1 : ss.length = is.length) (h2 : ss.length ≤ 100) : parL? is ss env h = .next (setAll env is ss) h := by
  unfold parL?
  rw [if_pos ⟨h1, by omega⟩]
@[simp] theorem v_setA0 : setAll env [] [] = env := id rfl
@[simp] theorem v_setA {i : Nat} {s : Sl} : setAll env (i :: is) (s :: ss) = setAll (env.set i (some s)) is ss := id rfl
end
end FL

namespace FL
open PySem PySem.Spec PyProof.Rows L2
theorem sSeq_eq {p q : Sv} {env e1 : En} {h h1 : Hs} (e : p env h = .next e1 h1) : sSeq p q env h = q e1 h1 := by rw [v_seq, e, v_seqN]
theorem v_last {l : List PyData} {x : PyData} : atI (l ++ [x]) (-1) = some x := by
  unfold atI ixN
  rw [if_neg (by decide)]
  have e : (l ++ [x]).length = l.length + 1 := by simp
  rw [e, if_pos (by omega)]
  have e2 : (-1 + ((l.length + 1 : Nat) : Int)).toNat = l.length := by omega
  show (l ++ [x])[(-1 + ((l.length + 1 : Nat) : Int)).toNat]? = some x
  rw [e2]
  simp
theorem natsD_snoc {ps : List Nat} {p : Nat} : natsD (ps ++ [p]) = natsD ps ++ [.int (p : Nat)] := by unfold natsD; simp
theorem lay_nats : ∀ ws : List Nat, PyData.canLayAll0 (natsD ws) = true ∧ PyData.depthAll (natsD ws) = 0 ∧ PyData.hasDictAll (natsD ws) = false
  | [] => by simp [natsD, PyData.canLayAll0, PyData.depthAll, PyData.hasDictAll]
  | w :: ws => by
    obtain ⟨h1, h2, h3⟩ := lay_nats ws
    refine ⟨?_, ?_, ?_⟩
    · show PyData.canLayAll0 (.int (w : Nat) :: natsD ws) = true
      simp [PyData.canLayAll0, PyData.canLay0, h1]
    · show PyData.depthAll (.int (w : Nat) :: natsD ws) = 0
      simp [PyData.depthAll, PyData.depth, h2]
    · show PyData.hasDictAll (.int (w : Nat) :: natsD ws) = false
      simp [PyData.hasDictAll, PyData.hasDict, h3]
theorem v_neNilO {ds : List PyData} {h : Hs} {k : Nat} (e : h[k]? = some (.lst ds)) (hs : shp (.list ds) = true) : gNe (.loc k) (.val (.list [])) h = some (.bool (!ds.isEmpty)) := by
  have ed : dat (.loc k) h = some (.list ds) := by rw [v_datO, e]; rfl
  show (match dat (.loc k) h, dat (.val (.list [])) h with | some d, some e => if eqOk d e then some (PyData.bool (!PyData.eqv d e)) else none | _, _ => none) = _
  rw [ed]
  show (if eqOk (.list ds) (.list []) then some (PyData.bool (!PyData.eqv (.list ds) (.list []))) else none) = _
  have e : eqOk (.list ds) (.list []) = true := by
    have h0 : shp (.list []) = true := by decide +kernel
    show (shp _ && shp _) = _
    rw [hs, h0]
    rfl
  rw [e]
  cases ds <;> simp [PyData.eqv, PyData.eqvAll]
theorem v_popL {h : Hs} {k : Nat} {ds : List PyData} {d : PyData} (e : h[k]? = some (.lst (ds ++ [d]))) : mPop (.loc k) [] h = some (d, h.set k (.lst ds)) := by
  show (match h[k]? with
    | some (.lst ds) => (ds[ds.length - 1]?).map fun d => (d, h.set k (.lst ds.dropLast))
    | _ => none) = _
  rw [e]
  simp
def mt0? (m : GM) (s : Sl) (h : Hs) : Rz Sl := if (litems s h).isSome = true then (match m s [] h with
  | some (d, h') => .ok (.val d) h'
  | none => .bad) else .bad
theorem v_mt0 {m : GM} {f : Ev} {env : En} {h : Hs} : eMt0 m f env h = (f env h).bind fun s h => mt0? m s h := by unfold eMt0 mt0?; rfl
theorem mt0_of {m : GM} {s : Sl} {h h' : Hs} {d : PyData} (h1 : (litems s h).isSome = true) (e : m s [] h = some (d, h')) : mt0? m s h = .ok (.val d) h' := by unfold mt0?; rw [if_pos h1, e]
theorem rk_road {n : Nat} {r : Road} (hn : n ≤ 10) (h : r.Ok n) : Rk 7700 1 r.d := by
  have := h.one
  have := h.other
  have := h.c2
  have := h.t
  refine (Rk.tuple (w := 1921) (k := 0) fun d m => ?_).mono (by simp) (Nat.le_refl _)
  simp only [List.mem_cons, List.not_mem_nil, or_false] at m
  rcases m with rfl | rfl | rfl | rfl <;> exact Rk.small (by omega) (by omega)
theorem rk_net {n : Nat} {rs : List Road} (h : NetOk n rs) : Rk 500000 3 (netD n rs) := by
  have h2 := h.n2
  have hl := h.len
  have e : Rk 240000 2 (.tuple (rs.map Road.d)) := by
    refine (Rk.tuple (w := 7700) (k := 1) fun d m => ?_).mono (by simp; omega) (Nat.le_refl _)
    obtain ⟨r, hr, rfl⟩ := List.mem_map.mp m
    exact rk_road h2 (h.all r hr)
  refine (Rk.tuple (w := 240000) (k := 2) fun d m => ?_).mono (by simp) (Nat.le_refl _)
  simp only [List.mem_cons, List.not_mem_nil, or_false] at m
  rcases m with rfl | rfl
  · exact (Rk.small (by omega) (by omega)).mono (by decide) (by decide)
  · exact e
theorem v_neNilV {ds : List PyData} {h : Hs} (hs : shp (.list ds) = true) : gNe (.val (.list ds)) (.val (.list [])) h = some (.bool (!ds.isEmpty)) := by
  show (if eqOk (.list ds) (.list []) then some (PyData.bool (!PyData.eqv (.list ds) (.list []))) else none) = _
  have e : eqOk (.list ds) (.list []) = true := by
    have h0 : shp (.list []) = true := by decide +kernel
    show (shp _ && shp _) = _
    rw [hs, h0]
    rfl
  rw [e]
  cases ds <;> simp [PyData.eqv, PyData.eqvAll]
def cat? (s t : Sl) (h : Hs) : Rz Sl := match litems s h, litems t h with
  | some a, some b => if lineOk (a.length + b.length) then .ok (.loc h.length) (h ++ [.lst (a ++ b)]) else .bad
  | _, _ => .bad
theorem v_catN {f1 f2 : Ev} {env : En} {h : Hs} : eCatN f1 f2 env h = (f1 env h).bind fun s h => (f2 env h).bind fun t h => cat? s t h := rfl
theorem cat_of {s t : Sl} {h : Hs} {a b : List PyData} (e1 : litems s h = some a) (e2 : litems t h = some b) (hl : a.length + b.length ≤ 16777216) : cat? s t h = .ok (.loc h.length) (h ++ [.lst (a ++ b)]) := by
  unfold cat?
  rw [e1, e2]
  dsimp only
  unfold lineOk
  rw [if_pos (decide_eq_true hl)]
/-! ### things that are shown -/
structure Gd (d : PyData) : Prop where
  rep : ∃ x, ∀ h, gReprX [.val d] h = some (.str x)
  len : ∀ ds, d = .tuple ds → ds.length ≤ 100000
theorem Gd.of {w k : Nat} {d : PyData} (r : Rk w k d) (hk : k ≤ 64) (hw : w ≤ 16777216) (hl : ∀ ds, d = .tuple ds → ds.length ≤ 100000) : Gd d := ⟨⟨_, fun h => v_reprX rfl r hk hw⟩, hl⟩
def gdB (d : PyData) : Bool := (gReprX [.val d] []).isSome && (match d with
  | .tuple ds => decide (ds.length ≤ 100000)
  | _ => true)
theorem gRepr_str {d z : PyData} {h : Hs} (e : gReprX [.val d] h = some z) : ∃ x, z = .str x := by
  unfold gReprX at e
  split at e
  · rename_i z' ez
    cases e
    unfold gRepr at ez
    dsimp only at ez
    split at ez
    · split at ez
      · cases ez; exact ⟨_, rfl⟩
      · cases ez
    · cases ez
  · dsimp only at e
    split at e
    · cases e; exact ⟨_, rfl⟩
    · cases e
theorem gdB_ok {d : PyData} (h : gdB d = true) : Gd d := by
  unfold gdB at h
  rw [Bool.and_eq_true] at h
  obtain ⟨h1, h2⟩ := h
  obtain ⟨z, e⟩ := Option.isSome_iff_exists.mp h1
  obtain ⟨x, rfl⟩ := gRepr_str e
  refine ⟨⟨x, fun h => e⟩, fun ds q => ?_⟩
  subst q
  simpa using h2
/-- a tuple, a list of small things -/
def atom (d : PyData) : Prop := Rk 1921 0 d
theorem Gd.tup {ds : List PyData} (h : ∀ d ∈ ds, atom d) (hl : ds.length ≤ 8000) : Gd (.tuple ds) := Gd.of (Rk.tuple h) (by decide) (by omega) fun es q => by cases q; omega
theorem Gd.lst {ds : List PyData} (h : ∀ d ∈ ds, atom d) (hl : ds.length ≤ 8000) : Gd (.list ds) := Gd.of (Rk.list h) (by decide) (by omega) fun es q => by cases q
theorem shp_roads {n : Nat} {rs : List Road} (hn : n ≤ 10) (h : ∀ r ∈ rs, r.Ok n) : shp (.list (rs.map Road.d)) = true := by
  refine (Rk.list (w := 7700) (k := 1) (ds := rs.map Road.d) fun d m => ?_).shp (by decide)
  obtain ⟨r, hr, rfl⟩ := List.mem_map.mp m
  exact rk_road hn (h r hr)
theorem frz_eq {k i : Nat} {g : Sv} {env e' : En} {h h' : Hs} (e : frz? k i env h = some (e', h')) : sFrz k i g env h = g e' h' := by unfold sFrz; rw [e]
end FL

namespace FL
open PySem PySem.Spec PyProof.Rows L2
/-! ### things of whatever kind: shown alone, and beside a net -/
inductive Kd (d : PyData) : Prop
  | rk (w k : Nat) (r : Rk w k d) (hw : w ≤ 1000000) (hk : k ≤ 20) : Kd d
  | d0 (e : d = .dict []) : Kd d
  | d1 (e : d = .dict [(.int 0, .int 1)]) : Kd d
def rkB (d : PyData) : Bool := d.canLay0 && decide (d.depth ≤ 5) && d.showable && decide (d.shown.length ≤ 1000)
theorem rkB_ok {d : PyData} (h : rkB d = true) : Kd d := by
  unfold rkB at h
  simp only [Bool.and_eq_true, decide_eq_true_eq] at h
  exact .rk 1000 5 ⟨h.1.1.1, h.1.1.2, h.1.2, h.2⟩ (by decide) (by decide)
def kdB (d : PyData) : Bool := rkB d || (match d with
  | .dict [] => true
  | .dict [(.int 0, .int 1)] => true
  | _ => false)
theorem kdB_ok {d : PyData} (h : kdB d = true) : Kd d := by
  unfold kdB at h
  rw [Bool.or_eq_true] at h
  rcases h with h | h
  · exact rkB_ok h
  · split at h
    · exact .d0 rfl
    · exact .d1 rfl
    · cases h
theorem Kd.rep {d : PyData} (k : Kd d) : ∃ x, ∀ h, gReprX [.val d] h = some (.str x) := by
  cases k with
  | rk w k r hw hk => exact ⟨_, fun h => v_reprX rfl r (by omega) (by omega)⟩
  | d0 e => subst e; exact (gdB_ok (by decide +kernel)).rep
  | d1 e => subst e; exact (gdB_ok (by decide +kernel)).rep
theorem lfr_nats : ∀ ds : List PyData, (∀ d ∈ ds, lfr d = true) → lfrs ds = true
  | [], _ => by simp [lfrs]
  | d :: ds, h => by simp [lfrs, h d List.mem_cons_self, lfr_nats ds fun x m => h x (List.mem_cons_of_mem _ m)]
theorem lfr_net {n : Nat} {rs : List Road} : lfr (netD n rs) = true := by
  have : lfrs (rs.map Road.d) = true := lfr_nats _ fun d m => by
    obtain ⟨r, _, rfl⟩ := List.mem_map.mp m
    simp [Road.d, lfr, lfrs]
  simp [netD, lfr, lfrs, this]
theorem rep2_dict {n : Nat} {rs : List Road} {d : PyData} (hn : NetOk n rs) (h1 : lfr d = true) (h2 : d.depth ≤ 3) (h3 : d.showable = true) (h4 : d.shown.length ≤ 100) (h5 : d.canLay0 = false) : ∀ h, gReprX [.val (.tuple [netD n rs, d])] h = some (.str (PyData.tuple [netD n rs, d]).shown) := by
  intro h
  have r := rk_net hn
  have e0 : gRepr [.val (.tuple [netD n rs, d])] h = none := by
    have : shp (.tuple [netD n rs, d]) = false := by
      unfold shp SeqAt.shaped
      simp [PyData.canLay0, PyData.canLayAll0, h5]
    show (match dat (.val (.tuple [netD n rs, d])) h with
      | some d => if shp d && d.showable && decide (d.shown.length ≤ 16777216) then some (PyData.str d.shown) else none
      | none => none) = none
    show (if shp (.tuple [netD n rs, d]) && _ && _ then _ else none) = none
    rw [this]
    rfl
  have c1 : lfr (.tuple [netD n rs, d]) = true := by simp [lfr, lfrs, lfr_net, h1]
  have c2 : (PyData.tuple [netD n rs, d]).depth ≤ 60 := by
    have := r.dep
    simp [PyData.depth, PyData.depthAll]
    omega
  have c3 : (PyData.tuple [netD n rs, d]).showable = true := by simp [PyData.showable, PyData.showableAll, r.sh, h3]
  have c4 : (PyData.tuple [netD n rs, d]).shown.length ≤ 16777216 := by
    have l1 := r.len
    have := tupleText_len_le (PyData.shownAll [netD n rs, d])
    simp only [PyData.shown]
    simp only [PyData.shownAll, List.map_cons, List.map_nil, List.sum_cons, List.sum_nil, List.length_cons, List.length_nil] at this
    simp only [PyData.shownAll] at *
    omega
  unfold gReprX
  rw [e0]
  dsimp only
  rw [c1, c3, decide_eq_true c2, decide_eq_true c4]
  rfl
theorem Kd.rep2 {n : Nat} {rs : List Road} {d : PyData} (hn : NetOk n rs) (k : Kd d) : ∃ x, ∀ h, gReprX [.val (.tuple [netD n rs, d])] h = some (.str x) := by
  cases k with
  | rk w k r hw hk =>
    refine ⟨_, fun h => v_reprX rfl (Rk.tuple (w := 1000000) (k := 20) (ds := [netD n rs, d]) fun x m => ?_) (by decide) (by simp)⟩
    simp only [List.mem_cons, List.not_mem_nil, or_false] at m
    rcases m with rfl | rfl
    · exact (rk_net hn).mono (by decide) (by decide)
    · exact r.mono hw hk
  | d0 e => subst e; exact ⟨_, rep2_dict hn (by decide +kernel) (by decide +kernel) (by decide +kernel) (by decide +kernel) (by decide +kernel)⟩
  | d1 e => subst e; exact ⟨_, rep2_dict hn (by decide +kernel) (by decide +kernel) (by decide +kernel) (by decide +kernel) (by decide +kernel)⟩
theorem Kd.tup {ds : List PyData} (h : ∀ d ∈ ds, Rk 1921 1 d) (hl : ds.length ≤ 100) : Kd (.tuple ds) := .rk _ 2 (Rk.tuple h) (by omega) (by decide)
theorem Kd.lst {ds : List PyData} (h : ∀ d ∈ ds, Rk 1921 1 d) (hl : ds.length ≤ 100) : Kd (.list ds) := .rk _ 2 (Rk.list h) (by omega) (by decide)
theorem rk_i {i : Int} (h1 : -9223372036854775808 ≤ i) (h2 : i < 9223372036854775808) : Rk 1921 1 (.int i) := (Rk.small h1 h2).mono (by decide) (by decide)
theorem v_addLO {n : Nat} {a b : List PyData} {h : Hs} (e : h[n]? = some (.lst a)) (hl : a.length + b.length ≤ 16777216) : gAdd (.loc n) (.val (.list b)) h = some (.list (a ++ b)) := by
  show (match litems (.loc n) h, litems (.val (.list b)) h with
    | some a, some b => if lineOk (a.length + b.length) then some (PyData.list (a ++ b)) else none
    | _, _ => none) = _
  have e1 : litems (.loc n) h = some a := by rw [v_liO, e]; rfl
  rw [e1, v_liL]
  dsimp only
  unfold lineOk
  rw [if_pos (decide_eq_true hl)]
theorem v_notInO {n : Nat} {ws : List Nat} {r : Nat} {h : Hs} (e : h[n]? = some (.lst (natsD ws))) : gNotIn (.val (.int (r : Nat))) (.loc n) h = some (.bool (!ws.contains r)) := by
  have e1 : shp (.int (r : Nat)) = true := rfl
  obtain ⟨n1, n2, n3⟩ := lay_nats ws
  have e2 : shp (.list (natsD ws)) = true := by
    unfold shp SeqAt.shaped
    simp [PyData.canLay0, PyData.depth, n1, n2]
  have e3 : items (.loc n) h = some (natsD ws) := by rw [v_itO, e]; rfl
  show (match dat (.val (.int (r : Nat))) h, items (.loc n) h with
    | some d, some ds => if shp d && shp (.list ds) then some (PyData.bool (!ds.any fun z => PyData.eqv z d)) else none
    | _, _ => none) = _
  rw [e3, v_datV]
  dsimp only
  rw [e1, e2, any_nats]
  rfl
theorem ints_nats (ws : List Nat) : ints? (natsD ws) = some (ws.map fun w : Nat => (w : Int)) := ints_map (fun w : Nat => (w : Int)) ws
theorem nodup_cast (ws : List Nat) : (ws.map fun w : Nat => (w : Int)).Nodup ↔ ws.Nodup := by
  unfold List.Nodup
  rw [List.pairwise_map]
  constructor
  · exact fun h => h.imp fun z e => z (by rw [e])
  · exact fun h => h.imp fun z e => z (by omega)
theorem sIf_T {c : Tv} {p q : Sv} {env : En} {h h1 : Hs} (e : c env h = .ok true h1) : sIf c p q env h = p env h1 := by rw [v_sif, e, v_fl, if_pos rfl]
theorem sIf_F {c : Tv} {p q : Sv} {env : En} {h h1 : Hs} (e : c env h = .ok false h1) : sIf c p q env h = q env h1 := by rw [v_sif, e, v_fl, if_neg Bool.false_ne_true]
theorem sIx_neg (n d : Nat) : HT.sIx n d (some (-1)) = n - 1 := by
  unfold HT.sIx
  dsimp only
  first | omega | (split <;> omega) | (unfold PySem.clampIndex; omega)
theorem cut_neg {ds : List PyData} : cutD ds none (some (-1)) = ds.take (ds.length - 1) := by
  unfold cutD
  rw [sIx_neg, HT.sIx_none, List.drop_zero, Nat.sub_zero]
theorem cut_last {ds : List PyData} : cutD ds (some (-1)) none = ds.drop (ds.length - 1) := by
  unfold cutD
  rw [sIx_neg, HT.sIx_none]
  exact List.take_of_length_le (by rw [List.length_drop]; omega)
end FL

namespace FL
open PySem PySem.Spec PyProof.Rows L2
/-! ### dicts of the def's own, by whole numbers -/
def lookD (kvs : List (Key × PyData)) (k : Key) : Option PyData := (kvs.find? fun kv => decide (kv.1 = k)).map (·.2)
def putD (kvs : List (Key × PyData)) (k : Key) (d : PyData) : List (Key × PyData) :=
  if (kvs.any fun kv => decide (kv.1 = k)) = true then kvs.map (fun kv => if kv.1 = k then (kv.1, d) else kv) else kvs ++ [(k, d)]
def obK (o : Option Ob) : Option (List (Key × PyData)) := match o with
  | some (.dic kvs) => some kvs
  | _ => none
@[simp] theorem v_obK {kvs : List (Key × PyData)} : obK (some (.dic kvs)) = some kvs := id rfl
def dicS (s : Sl) (h : Hs) : Option (List (Key × PyData)) := match s with
  | .loc n => obK h[n]?
  | _ => none
def keyS (s : Sl) : Option Key := match s with
  | .val (.int i) => some (.inl i)
  | _ => none
/-- what stands in the heap behind a dict -/
structure DicAt (K : PySem.W.Frag) (H : Hp) (M : Ms) (a : Addr) (vs : List (Key × V)) (kvs : List (Key × PyData)) : Prop where
  at_ : H a = some (.dK vs)
  keys : vs.map (·.1) = kvs.map (·.1)
  all : RpAll K H M (vs.map (·.2)) (kvs.map (·.2))
theorem DicAt.len {K : PySem.W.Frag} {H : Hp} {M : Ms} {a : Addr} {vs : List (Key × V)} {kvs : List (Key × PyData)} (d : DicAt K H M a vs kvs) : vs.length = kvs.length := by
  have := congrArg List.length d.keys
  simpa using this
theorem look_rel {K : PySem.W.Frag} {H : Hp} {M : Ms} {k : Key} : ∀ {vs : List (Key × V)} {kvs : List (Key × PyData)}, vs.map (·.1) = kvs.map (·.1) → RpAll K H M (vs.map (·.2)) (kvs.map (·.2)) →
    match lookD kvs k with
    | some d => ∃ v, valV vs k = some v ∧ Rp K H M v d
    | none => valV vs k = none
  | [], [], _, _ => rfl
  | [], _ :: _, e, _ => by simp at e
  | _ :: _, [], e, _ => by simp at e
  | v :: vs, d :: kvs, e, r => by
    rw [List.map_cons, List.map_cons, List.cons.injEq] at e
    cases r with
    | cons h t =>
      have ih := look_rel (k := k) e.2 t
      by_cases q : d.1 = k
      · have q' : v.1 = k := e.1.trans q
        have e1 : lookD (d :: kvs) k = some d.2 := by unfold lookD; rw [List.find?_cons]; simp [q]
        have e2 : valV (v :: vs) k = some v.2 := by unfold valV; rw [List.find?_cons]; simp [q']
        rw [e1, e2]
        exact ⟨v.2, rfl, h⟩
      · have q' : ¬ v.1 = k := fun z => q (e.1.symm.trans z)
        have e1 : lookD (d :: kvs) k = lookD kvs k := by unfold lookD; rw [List.find?_cons]; simp [q]
        have e2 : valV (v :: vs) k = valV vs k := by unfold valV; rw [List.find?_cons]; simp [q']
        rw [e1, e2]
        exact ih
theorem dput_rel {K : PySem.W.Frag} {H : Hp} {M : Ms} {k : Key} {v : V} {d : PyData} (rv : Rp K H M v d) {vs : List (Key × V)} {kvs : List (Key × PyData)} (e : vs.map (·.1) = kvs.map (·.1)) (r : RpAll K H M (vs.map (·.2)) (kvs.map (·.2))) :
    (putK vs k v).map (·.1) = (putD kvs k d).map (·.1) ∧ RpAll K H M ((putK vs k v).map (·.2)) ((putD kvs k d).map (·.2)) := by
  have ea : ∀ {vs : List (Key × V)} {kvs : List (Key × PyData)}, vs.map (·.1) = kvs.map (·.1) → (vs.any fun kv => decide (kv.1 = k)) = (kvs.any fun kv => decide (kv.1 = k)) := by
    intro vs
    induction vs with
    | nil => intro kvs e; cases kvs with
      | nil => rfl
      | cons _ _ => simp at e
    | cons v vs ih =>
      intro kvs e
      cases kvs with
      | nil => simp at e
      | cons d kvs =>
        rw [List.map_cons, List.map_cons, List.cons.injEq] at e
        rw [List.any_cons, List.any_cons, ih e.2, e.1]
  unfold putK putD
  rw [ea e]
  by_cases q : (kvs.any fun kv => decide (kv.1 = k)) = true
  · rw [if_pos q, if_pos q]
    clear q
    induction vs generalizing kvs with
    | nil => cases kvs with
      | nil => exact ⟨rfl, .nil⟩
      | cons _ _ => simp at e
    | cons w vs ih =>
      cases kvs with
      | nil => simp at e
      | cons x kvs =>
        rw [List.map_cons, List.map_cons, List.cons.injEq] at e
        cases r with
        | cons h t =>
          obtain ⟨i1, i2⟩ := ih e.2 t
          by_cases q : x.1 = k
          · have q' : w.1 = k := e.1.trans q
            simp only [List.map_cons, if_pos q, if_pos q']
            exact ⟨by rw [i1, e.1], .cons rv i2⟩
          · have q' : ¬ w.1 = k := fun z => q (e.1.symm.trans z)
            simp only [List.map_cons, if_neg q, if_neg q']
            exact ⟨by rw [i1, e.1], .cons h i2⟩
  · rw [if_neg q, if_neg q, List.map_append, List.map_append, List.map_append, List.map_append, e]
    exact ⟨rfl, RpAll.append r (.cons rv .nil)⟩
theorem dic_rel {K : PySem.W.Frag} {C : Fc} {ρ : Fps} {h : Hs} {H : Hp} {s : Sl} {v : V} {kvs : List (Key × PyData)} (S : SimH K C ρ h H) (r : SlV K C ρ H v s) (e : dicS s h = some kvs) : ∃ (n : Nat) (a : Addr) (vs : List (Key × V)), s = .loc n ∧ v = .ref a ∧ ρ[n]? = some [a] ∧ h[n]? = some (.dic kvs) ∧ DicAt K H (Mo C ρ) a vs kvs := by
  unfold dicS at e
  split at e
  · rename_i n
    unfold obK at e
    split at e
    · rename_i kvs' e1
      cases e
      obtain ⟨fp, a, e2, e3, rfl⟩ := r
      obtain ⟨b, vs, rfl, h1, h2, h3⟩ := S.obj n fp _ e2 e1
      have : b = a := by simpa using e3
      subst this
      exact ⟨n, b, vs, rfl, rfl, e2, e1, h1, h2, h3⟩
    · cases e
  · cases e
theorem key_rel {K : PySem.W.Frag} {C : Fc} {ρ : Fps} {H : Hp} {s : Sl} {v : V} {k : Key} (r : SlV K C ρ H v s) (e : keyS s = some k) : v = kV k := by
  unfold keyS at e
  split at e
  · rename_i i
    cases e
    cases (show Rp K H (Mo C ρ) v (.int i) from r)
    rfl
  · cases e
theorem Po.mono {α β : Type} {K : PySem.W.Frag} {mg : Str → Option Value} {C : Fc} {Wx : WX} {σ : St} {ρ : Fps} {H : Hp} {rel : Fps → Hp → β → α → Prop} {r : Rz α} {Q Q' : β → Hp → Prop} (P : Po K mg C Wx σ ρ H rel r Q) (f : ∀ v H, Q v H → Q' v H) : Po K mg C Wx σ ρ H rel r Q' := by
  cases r with
  | ok a h => exact fun ρ' v H' x S q => f v H' (P ρ' v H' x S q)
  | err x h => exact P
  | bad => exact P
def gDIn : G2 := fun s t h => match keyS s, dicS t h with
  | some k, some kvs => some (.bool (lookD kvs k).isSome)
  | _, _ => none
def gDNotIn : G2 := fun s t h => match keyS s, dicS t h with
  | some k, some kvs => some (.bool (!(lookD kvs k).isSome))
  | _, _ => none
def gDIx : G2 := fun s t h => match dicS s h, keyS t with
  | some kvs, some k => lookD kvs k
  | _, _ => none
def gDGet : G2 := fun s t h => match dicS s h, keyS t with
  | some kvs, some k => some ((lookD kvs k).getD .none)
  | _, _ => none
theorem look_some {K : PySem.W.Frag} {H : Hp} {M : Ms} {a : Addr} {vs : List (Key × V)} {kvs : List (Key × PyData)} (d : DicAt K H M a vs kvs) (k : Key) : (valV vs k).isSome = (lookD kvs k).isSome := by
  have := look_rel (k := k) d.keys d.all
  cases q : lookD kvs k with
  | none => rw [q] at this; rw [this]; rfl
  | some x =>
    rw [q] at this
    obtain ⟨v, e, _⟩ := this
    rw [e]
    rfl
section
variable {X : Cx} {C : Fc} {Wx : WX}
theorem o_din (hu : X.A.units + 65 < cLine) : OpR X (compareOp .In) (rd2 X.K C gDIn) := by
  intro pins s σ H y x v u Q I ry rx ⟨ρ, h, s1, t1, d, S, r1, r2, e, k⟩
  unfold gDIn at e
  split at e
  · rename_i ky kvs e1 e2
    cases e
    obtain ⟨n, a, vs, rfl, rfl, _, _, D⟩ := dic_rel S r2 e2
    have ey := key_rel r1 e1
    subst ey
    cases (show u = Value.ref a from rx)
    refine d_in (by omega) I (DGet.k D.at_) ry fun s' I' => ⟨.bl (lookD kvs ky).isSome, H, I', ?_, k _ H (Ex.refl _ _ _) S (.bl _)⟩
    rw [look_some D ky]
    rfl
  · cases e
theorem o_dnotin (hu : X.A.units + 65 < cLine) : OpR X (compareOp .NotIn) (rd2 X.K C gDNotIn) := by
  intro pins s σ H y x v u Q I ry rx ⟨ρ, h, s1, t1, d, S, r1, r2, e, k⟩
  unfold gDNotIn at e
  split at e
  · rename_i ky kvs e1 e2
    cases e
    obtain ⟨n, a, vs, rfl, rfl, _, _, D⟩ := dic_rel S r2 e2
    have ey := key_rel r1 e1
    subst ey
    cases (show u = Value.ref a from rx)
    refine d_notIn (by omega) I (DGet.k D.at_) ry fun s' I' => ⟨.bl (!(lookD kvs ky).isSome), H, I', ?_, k _ H (Ex.refl _ _ _) S (.bl _)⟩
    rw [look_some D ky]
    rfl
  · cases e
theorem fe_dix {o i : Expr} {f1 f2 : Ev} {pos : Pos} (hu : X.A.units + 65 < cLine) (ho : FE X C Wx o f1) (hi : FE X C Wx i f2) (hs : NoSl i := by intro _ _; rfl) : FE X C Wx (.Subscript o i pos) (cBin gDIx f1 f2) := PE.imp (pe_dget (by omega) ho hi hs) fun σ H Q p => by
  have p2 := rd.bin p
  obtain ⟨ρ, env, h, S, E, P⟩ := p2
  refine ⟨ρ, env, h, S, E, Po.mono P fun x H1 q => ?_⟩
  obtain ⟨ρ, env, h, S, E, P⟩ := q
  refine ⟨ρ, env, h, S, E, Po.mono P fun y H2 q => ?_⟩
  obtain ⟨ρ, h, s, t, d, S, r1, r2, e, k⟩ := q
  unfold gDIx at e
  split at e
  · rename_i kvs ky e1 e2
    obtain ⟨n, a, vs, rfl, rfl, _, _, D⟩ := dic_rel S r1 e1
    have ey := key_rel r2 e2
    subst ey
    have := look_rel (k := ky) D.keys D.all
    rw [e] at this
    obtain ⟨v, ev, rv⟩ := this
    refine ⟨a, v, rfl, ?_, k v H2 (Ex.refl _ _ _) S rv⟩
    rw [← ev]
    exact DGet.k D.at_
  · cases e
/-! ### d.get(k), d.get(k, None) -/
def eDGet (f1 f2 : Ev) : Ev := fun env h => (f1 env h).bind fun s h => if (dicS s h).isSome = true then (f2 env h).bind fun t h => .give (gDGet s t h) h else .bad
theorem dget_core {f1 f2 : Ev} {σ : St} {H : Hp} {Q : VK} (p : rd X.K X.mg C Wx (relE X.K C) (eDGet f1 f2) σ H Q) : rd X.K X.mg C Wx (relE X.K C) f1 σ H fun x H1 => ∃ a, x = .ref a ∧ IsD H1 a ∧ rd X.K X.mg C Wx (relE X.K C) f2 σ H1 fun y H2 => ∃ o, DGet H2 a y o ∧ Q (o.getD .non) H2 := by
  refine rd.bind (f := f1) (g := fun s env h => if (dicS s h).isSome = true then (f2 env h).bind fun t h => .give (gDGet s t h) h else .bad) p fun ρ1 env h1 s x H1 S1 E1 r1 P1 => ?_
  split at P1
  · rename_i hs
    obtain ⟨kvs, ek⟩ := Option.isSome_iff_exists.mp hs
    obtain ⟨n, a, vs, rfl, rfl, _, _, D⟩ := dic_rel S1 r1 ek
    refine ⟨a, rfl, .inl ⟨vs, .inl D.at_⟩, rd.of (env := env) (h := h1) S1 E1 ?_⟩
    cases q : f2 env h1 with
    | bad => rw [q] at P1; exact P1
    | err y h2 => rw [q] at P1; exact P1
    | ok t h2 =>
      intro ρ2 y H2 x2 S2 r2
      rw [q, v_bind] at P1
      have P2 := Po.ex x2 P1
      obtain ⟨d, e, k⟩ := P2.given
      unfold gDGet at e
      split at e
      · rename_i kvs2 ky e1 e2
        cases e
        obtain ⟨n2, a2, vs2, en, ea, _, _, D2⟩ := dic_rel S2 (SlV.ex x2 r1) e1
        cases ea
        have ey := key_rel r2 e2
        subst ey
        refine ⟨valV vs2 ky, DGet.k D2.at_, ?_⟩
        have := look_rel (k := ky) D2.keys D2.all
        cases ql : lookD kvs2 ky with
        | none =>
          rw [ql] at this k
          rw [this]
          exact k _ H2 (Ex.refl _ _ _) S2 .non
        | some dd =>
          rw [ql] at this k
          obtain ⟨v, ev, rv⟩ := this
          rw [ev]
          exact k _ H2 (Ex.refl _ _ _) S2 rv
      · cases e
  · exact P1.elim
theorem fe_dget1 {o e : Expr} {f1 f2 : Ev} {apos cpos : Pos} (hu : X.A.units + 65 < cLine) (ho : FE X C Wx o f1) (he : FE X C Wx e f2) (m1 : attributeBase o "get" X.env (eval o X.env) = eval o X.env := by rfl) (m2 : ((backTo cpos (starEach [e] X.env)).all (fun x => !x.1) && (backToKw cpos (keywordEach [] X.env)).all (fun x => x.1.isSome) && decide (([e] : List Expr).length + ([] : List Keyword).length + (if ([] : List Keyword).isEmpty then 0 else 1) < 30)) = true := by rfl) (m3 : (apos.endLine == cpos.line) = true := by rfl) (m4 : backTo cpos (starEach [e] X.env) = [(false, eval e X.env)] := by rfl) : FE X C Wx (.Call (.Attribute o "get" apos) [e] [] cpos) (eDGet f1 f2) := PE.imp (pe_dget1 (by omega) ho he ⟨m1, m2, m3, m4⟩) fun σ H Q p => dget_core p
theorem fe_dget2 {o e : Expr} {f1 f2 : Ev} {apos cpos : Pos} (hu : X.A.units + 65 < cLine) (ho : FE X C Wx o f1) (he : FE X C Wx e f2) {c : Expr} (hc : PE X c (tC .non)) (m1 : attributeBase o "get" X.env (eval o X.env) = eval o X.env := by rfl) (m2 : ((backTo cpos (starEach [e, c] X.env)).all (fun x => !x.1) && (backToKw cpos (keywordEach [] X.env)).all (fun x => x.1.isSome) && decide (([e, c] : List Expr).length + ([] : List Keyword).length + (if ([] : List Keyword).isEmpty then 0 else 1) < 30)) = true := by rfl) (m3 : (apos.endLine == cpos.line) = true := by rfl) (m4 : backTo cpos (starEach [e, c] X.env) = [(false, eval e X.env), (false, eval c X.env)] := by rfl) : FE X C Wx (.Call (.Attribute o "get" apos) [e, c] [] cpos) (eDGet f1 f2) := PE.imp (pe_dget2 (by omega) ho he hc ⟨m1, m2, m3, m4⟩) fun σ H Q p => by
  obtain ⟨ρ, env, h, S, E, P⟩ := dget_core p
  refine ⟨ρ, env, h, S, E, Po.mono P fun x H1 ⟨a, ex, d, q⟩ => ⟨a, ex, d, ?_⟩⟩
  obtain ⟨ρ, env, h, S, E, P⟩ := q
  exact ⟨ρ, env, h, S, E, Po.mono P fun y H2 q => q⟩
/-! ### d[k] = v -/
def dputAt (s t u : Sl) (h : Hs) : Option Hs := match s, keyS t, u with
  | .loc n, some k, .val d => match obK h[n]? with
    | some kvs => if kvs.length < 16777216 then some (h.set n (.dic (putD kvs k d))) else none
    | none => none
  | _, _, _ => none
def sDPut (fo fi fe : Ev) : Sv := fun env h => (fe env h).fl env fun u h => (fo env h).fl env fun s h => (fi env h).fl env fun t h => match dputAt s t u h with
  | some h' => .next env h'
  | none => .bad
theorem fs_dput {o i e : Expr} {fo fi fe : Ev} {tpos pos : Pos} (hu : X.A.units + 65 < cLine) (ho : FE X C Wx o fo) (hi : FE X C Wx i fi) (he : FE X C Wx e fe) (hs : swapsWith e (some (.Subscript o i tpos)) pos.line X.env = pure false := by rfl) :
    FS X C Wx (.Assign [.Subscript o i tpos] e pos) (sDPut fo fi fe) := PS.imp (ps_dput (by omega) ho hi he hs) fun D σ H p => by
  refine rdS.bind (f := fe) (g := fun u env h => (fo env h).fl env fun s h => (fi env h).fl env fun t h => match dputAt s t u h with
    | some h' => (.next env h' : Fl)
    | none => .bad) p fun ρ1 env h1 u v H1 S1 E1 r1 P1 => ?_
  refine rd.of S1 E1 ?_
  have P1' : PoS X.K X.mg C Wx D ρ1 H1 ((fo env h1).fl env fun s h => (fi env h).fl env fun t h => match dputAt s t u h with
    | some h' => (.next env h' : Fl)
    | none => .bad) := P1
  cases q1 : fo env h1 with
  | bad => rw [q1] at P1'; exact P1'
  | err y h2 => rw [q1] at P1'; exact fun ρ' H' cls d s S' q => P1' ρ' σ H' cls d s.stp S' (E1.ex s) q
  | ok s h2 =>
    rw [q1] at P1'
    intro ρ2 x H2 x2 S2 r2
    refine rd.of S2 (E1.ex x2) ?_
    have P2 : PoS X.K X.mg C Wx D ρ1 H1 ((fi env h2).fl env fun t h => match dputAt s t u h with
      | some h' => (.next env h' : Fl)
      | none => .bad) := P1'
    cases q2 : fi env h2 with
    | bad => rw [q2] at P2; exact P2
    | err y h3 => rw [q2] at P2; exact fun ρ' H' cls d s S' q => P2 ρ' σ H' cls d (x2.stp.trans s.stp) S' ((E1.ex x2).ex s) q
    | ok t h3 =>
      rw [q2] at P2
      intro ρ3 y H3 x3 S3 r3
      have P3 : PoS X.K X.mg C Wx D ρ1 H1 (match dputAt s t u h3 with
        | some h' => (.next env h' : Fl)
        | none => .bad) := P2
      cases q3 : dputAt s t u h3 with
      | none => rw [q3] at P3; exact P3.elim
      | some h4 =>
        rw [q3] at P3
        unfold dputAt at q3
        split at q3
        · rename_i n k d eky
          cases qo : obK h3[n]? with
          | none => rw [qo] at q3; cases q3
          | some kvs =>
            rw [qo] at q3
            dsimp only at q3
            split at q3
            · rename_i hl
              cases q3
              obtain ⟨n', a, vs, en, rfl, e1, e2, Dc⟩ := dic_rel (s := .loc n) S3 (SlV.ex x3 r2) qo
              cases en
              have ey := key_rel r3 eky
              subst ey
              have rv : Rp X.K H3 (Mo C ρ3) v d := SlV.ex (x2.trans x3) r1
              have st : Stp (Mo C ρ3) H3 (Mo C ρ3) (upd H3 a (.dK (putK vs k v))) := ⟨keepE fun b u z nm => by
                have : b ≠ a := fun w => nm (w ▸ .inl (flat_at e1 (by simp)))
                rw [upd_ne this]; exact z, fun _ mm => .inl mm⟩
              obtain ⟨p1, p2⟩ := dput_rel (k := k) rv Dc.keys Dc.all
              have W := S3.write (ob := .dic (putD kvs k d)) (o := .dK (putK vs k v)) e1 ⟨a, _, rfl, upd_same, p1, p2.stp st⟩
              exact ⟨a, _, rfl, .inl ⟨vs, k, Dc.at_, rfl, by rw [Dc.len, sizeLine_eq]; exact hl, rfl⟩, P3 ρ3 σ _ ((x2.stp.trans x3.stp).trans W.2.stp) W.1 (((E1.ex x2).ex x3).ex W.2)⟩
            · cases q3
        · cases q3
/-! ### {x: c}, one of the def's own -/
def eDic1 (i : Nat) (d : PyData) : Ev := fun env h => match env[i]? with
  | some (some (.val (.int k))) => .ok (.loc h.length) (h ++ [.dic [(.inl k, d)]])
  | _ => .bad
theorem fe_dic1 {i : Nat} {n : Str} {c : Expr} {d : PyData} {p1 pos : Pos} {cv : V} (hcv : PE X c (tC cv)) (hr : ∀ H M, Rp X.K H M cv d)
    (hN : X.N[i]? = some n := by rfl) (hv : Vis X.env.scope n := by first | exact Or.inl rfl | exact Or.inr (Or.inl rfl) | exact Or.inr (Or.inr rfl)) (hd : (n == ("__debug__" : Str)) = false := by decide) (hcd : (n == ("__classdict__" : Str)) = false := by decide) : FE X C Wx (.Dict [some (.Name n p1)] [c] pos) (eDic1 i d) := by
  refine PE.imp (pe_disp (pps_cons (pe_var hN hv hd hcd) hcv pps_nil) rfl rfl (by simp) (by simp)) fun σ H Q p => ?_
  obtain ⟨ρ, env, h, S, E, P⟩ := p
  unfold eDic1 at P
  split at P
  · rename_i k ek
    obtain ⟨v, e1, r⟩ := E.at_ i _ ek
    cases (show Rp X.K H (Mo C ρ) v (.int k) from r)
    intro q hq
    refine ⟨.int k, e1, ?_⟩
    refine ⟨upd_same, [(.inl k, cv)], rfl, by simp, ?_⟩
    have eu : upd (upd H q (.dK [])) q (.dK (mergeK [] [(Sum.inl k, cv)])) = upd H q (.dK [(.inl k, cv)]) := by
      funext b
      unfold upd
      by_cases z : b = q <;> simp [z, mergeK, putK]
    rw [eu]
    have S' := S.push (o := .dK [(.inl k, cv)]) (ob := .dic [(.inl k, d)]) hq ⟨q, _, rfl, upd_same, rfl, .cons (hr _ _) .nil⟩
    refine P (ρ ++ [[q]]) (.ref q) _ (Ex.push hq) S' ?_
    rw [← S.len]
    exact SlV.pushed _
  · exact P.elim
end
/-! ### reckoning -/
section
variable {env : En} {h : Hs} {f1 f2 f3 : Ev} {kvs : List (Key × PyData)} {i : Nat} {k : Int} {d : PyData} {n : Nat}
@[simp] theorem v_dicS : dicS (.loc n) h = obK h[n]? := id rfl
@[simp] theorem v_keyS : keyS (.val (.int k)) = some (.inl k) := id rfl
def din? (a : Option Key) (b : Option (List (Key × PyData))) : Option PyData := match a, b with
  | some k, some kvs => some (.bool (lookD kvs k).isSome)
  | _, _ => none
@[simp] theorem v_din1 {ky : Key} : din? (some ky) (some kvs) = some (.bool (lookD kvs ky).isSome) := id rfl
@[simp] theorem v_gDIn {s t : Sl} : gDIn s t h = din? (keyS s) (dicS t h) := id rfl
@[simp] theorem v_gDNot {s t : Sl} : gDNotIn s t h = (din? (keyS s) (dicS t h)).bind fun z => match z with
  | .bool b => some (.bool (!b))
  | _ => none := by
  unfold gDNotIn din?
  cases keyS s <;> cases dicS t h <;> rfl
def dix? (b : Option (List (Key × PyData))) (a : Option Key) : Option PyData := match b, a with
  | some kvs, some k => lookD kvs k
  | _, _ => none
@[simp] theorem v_dix1 {ky : Key} : dix? (some kvs) (some ky) = lookD kvs ky := id rfl
@[simp] theorem v_gDIx {s t : Sl} : gDIx s t h = dix? (dicS s h) (keyS t) := id rfl
def dgt? (b : Option (List (Key × PyData))) (a : Option Key) : Option PyData := match b, a with
  | some kvs, some k => some ((lookD kvs k).getD .none)
  | _, _ => none
@[simp] theorem v_dgt1 {ky : Key} : dgt? (some kvs) (some ky) = some ((lookD kvs ky).getD .none) := id rfl
@[simp] theorem v_gDGet {s t : Sl} : gDGet s t h = dgt? (dicS s h) (keyS t) := id rfl
def dget? (o : Option (List (Key × PyData))) (r : Rz Sl) : Rz Sl := if o.isSome = true then r else .bad
@[simp] theorem v_dget2 {r : Rz Sl} : dget? (some kvs) r = r := id rfl
@[simp] theorem v_eDGet : eDGet f1 f2 env h = (f1 env h).bind fun s h => dget? (dicS s h) ((f2 env h).bind fun t h => .give (gDGet s t h) h) := id rfl
def put? (o : Option Hs) (env : En) : Fl := match o with
  | some h' => .next env h'
  | none => .bad
@[simp] theorem v_put1 {h' : Hs} : put? (some h') env = .next env h' := id rfl
@[simp] theorem v_sDPut : sDPut f1 f2 f3 env h = (f3 env h).fl env fun u h => (f1 env h).fl env fun s h => (f2 env h).fl env fun t h => put? (dputAt s t u h) env := by
  unfold sDPut put?
  rfl
theorem v_dput {x : PyData} (e : h[n]? = some (.dic kvs)) (hl : kvs.length < 16777216) : dputAt (.loc n) (.val (.int k)) (.val x) h = some (h.set n (.dic (putD kvs (.inl k) x))) := by
  show (match obK h[n]? with
    | some kvs => if kvs.length < 16777216 then some (h.set n (.dic (putD kvs (.inl k) x))) else none
    | none => none) = _
  rw [e, v_obK]
  dsimp only
  rw [if_pos hl]
theorem v_dic1 (e : env[i]? = some (some (.val (.int k)))) : eDic1 i d env h = .ok (.loc h.length) (h ++ [.dic [(.inl k, d)]]) := by
  unfold eDic1
  rw [e]
end
end FL

namespace FL
open PySem PySem.Spec PyProof.Rows L2
/-! ### zip(x, y) of two lists, of two tuples -/
def zipD : List PyData → List PyData → List PyData
  | d :: ds, e :: es => .tuple [d, e] :: zipD ds es
  | _, _ => []
theorem zipD_get : ∀ (ds es : List PyData) (i : Nat), (zipD ds es)[i]? = match ds[i]?, es[i]? with
    | some d, some e => some (.tuple [d, e])
    | _, _ => none
  | [], _, i => by simp [zipD]
  | d :: ds, [], i => by
    simp [zipD]
  | d :: ds, e :: es, 0 => by simp [zipD]
  | d :: ds, e :: es, i + 1 => by
    show (zipD ds es)[i]? = _
    rw [zipD_get ds es i]
    simp
theorem zipD_len : ∀ (ds es : List PyData), (zipD ds es).length = min ds.length es.length
  | [], _ => by simp [zipD]
  | d :: ds, [] => by simp [zipD]
  | d :: ds, e :: es => by
    show (zipD ds es).length + 1 = _
    rw [zipD_len ds es, List.length_cons, List.length_cons]
    omega
def srcZip (f : Av) : En → Hs → Rz (List PyData) := fun env h => (f env h).bind fun ss h => match ss with
  | [.val (.tuple ds), .val (.tuple es)] => .ok (zipD ds es) h
  | [.val (.list ds), .val (.list es)] => .ok (zipD ds es) h
  | _ => .bad
theorem gvs_zT {K : PySem.W.Frag} {H : Hp} {M : Ms} {a b : Addr} {xs ys : List V} {ds es : List PyData} (q : QT K H M a xs) (r : RpAll K H M xs ds) (q2 : QT K H M b ys) (r2 : RpAll K H M ys es) : Gvs K (RZ.ItzT K a b) (zipD ds es) M H where
  go := fun M' H' i d s e => by
    rw [zipD_get] at e
    split at e
    · rename_i d1 d2 z1 z2
      obtain ⟨v, ev, _⟩ := r.get z1
      obtain ⟨w, ew, _⟩ := r2.get z2
      exact ⟨xs, ys, v, w, (q.stp s).sq, (q2.stp s).sq, ev, ew⟩
    · cases e
  yld := fun M' H' i d x H'' s e y => by
    obtain ⟨T, v, w, rfl, hT, rfl, hv, hw⟩ := y
    rw [zipD_get] at e
    split at e
    · rename_i d1 d2 z1 z2
      cases e
      obtain ⟨v', ev, rv⟩ := r.get z1
      obtain ⟨w', ew, rw_⟩ := r2.get z2
      have h1 := hv xs (q.stp s).sq
      rw [ev] at h1; cases h1
      have h2 := hw ys (q2.stp s).sq
      rw [ew] at h2; cases h2
      exact .inr ⟨T, _, _, hT, rfl, rfl, rfl, .cons (rv.stp s) (.cons (rw_.stp s) .nil)⟩
    · cases e
  stop := fun M' H' i s hl => ⟨xs, ys, (q.stp s).sq, (q2.stp s).sq, by
    rw [zipD_len] at hl
    rw [r.length, r2.length]
    omega⟩
theorem gvs_zL {K : PySem.W.Frag} {H : Hp} {M : Ms} {a b : Addr} {xs ys : List V} {ds es : List PyData} (q : QL K H M a xs) (r : RpAll K H M xs ds) (q2 : QL K H M b ys) (r2 : RpAll K H M ys es) : Gvs K (Itz K a b) (zipD ds es) M H where
  go := fun M' H' i d s e => by
    rw [zipD_get] at e
    split at e
    · rename_i d1 d2 z1 z2
      obtain ⟨v, ev, _⟩ := r.get z1
      obtain ⟨w, ew, _⟩ := r2.get z2
      exact ⟨xs, ys, v, w, (q.stp s).sq, (q2.stp s).sq, ev, ew⟩
    · cases e
  yld := fun M' H' i d x H'' s e y => by
    obtain ⟨T, v, w, rfl, hT, rfl, hv, hw⟩ := y
    rw [zipD_get] at e
    split at e
    · rename_i d1 d2 z1 z2
      cases e
      obtain ⟨v', ev, rv⟩ := r.get z1
      obtain ⟨w', ew, rw_⟩ := r2.get z2
      have h1 := hv xs (q.stp s).sq
      rw [ev] at h1; cases h1
      have h2 := hw ys (q2.stp s).sq
      rw [ew] at h2; cases h2
      exact .inr ⟨T, _, _, hT, rfl, rfl, rfl, .cons (rv.stp s) (.cons (rw_.stp s) .nil)⟩
    · cases e
  stop := fun M' H' i s hl => ⟨xs, ys, (q.stp s).sq, (q2.stp s).sq, by
    rw [zipD_len] at hl
    rw [r.length, r2.length]
    omega⟩
section
variable {X : Cx} {C : Fc} {Wx : WX} {e e2 : Expr} {f : Av} {p pos tpos : Pos} {elts : List Expr} {kk : Nat}
theorem fi_zip2 (hg : Gl X "zip") (hm : X.mg "zip" = none) (ha : FA X C Wx [e, e2] f) (hs : starEach [e, e2] X.env = (false, eval e X.env) :: starEach [e2] X.env := by rfl) (hpl : (backTo pos (starEach [e2] X.env)).any (·.1) = false := by rfl) :
    FI X C Wx (.Tuple elts kk tpos) (.Call (.Name "zip" p) [e, e2] [] pos) (srcZip f) := PI.imp (RZ.pi_zipA hg hm ha hs hpl) fun σ H R p => by
  refine rd.bind (f := f) (g := fun ss env h => match ss with
    | [.val (.tuple ds), .val (.tuple es)] => (.ok (zipD ds es) h : Rz (List PyData))
    | [.val (.list ds), .val (.list es)] => .ok (zipD ds es) h
    | _ => .bad) p fun ρ1 env h1 ss vs H1 S1 E1 r1 P1 => ?_
  split at P1
  · rename_i ds es
    obtain ⟨v, w, rfl, rv, rw_⟩ := SlVs.two r1
    cases (show Rp X.K H1 (Mo C ρ1) v (.tuple ds) from rv) with
    | tup q1 a1 =>
      cases (show Rp X.K H1 (Mo C ρ1) w (.tuple es) from rw_) with
      | tup q2 a2 => exact ⟨_, _, _, _, rfl, .inr ⟨q1.sq, q2.sq, P1 ρ1 _ H1 (Ex.refl _ _ _) S1 (gvs_zT q1 a1 q2 a2)⟩⟩
  · rename_i ds es
    obtain ⟨v, w, rfl, rv, rw_⟩ := SlVs.two r1
    cases (show Rp X.K H1 (Mo C ρ1) v (.list ds) from rv) with
    | lst q1 a1 =>
      cases (show Rp X.K H1 (Mo C ρ1) w (.list es) from rw_) with
      | lst q2 a2 => exact ⟨_, _, _, _, rfl, .inl ⟨q1.sq, q2.sq, P1 ρ1 _ H1 (Ex.refl _ _ _) S1 (gvs_zL q1 a1 q2 a2)⟩⟩
  · exact P1.elim
end
def zip? (ss : List Sl) (h : Hs) : Rz (List PyData) := match ss with
  | [.val (.tuple ds), .val (.tuple es)] => .ok (zipD ds es) h
  | [.val (.list ds), .val (.list es)] => .ok (zipD ds es) h
  | _ => .bad
@[simp] theorem v_zipT {ds es : List PyData} {h : Hs} : zip? [.val (.tuple ds), .val (.tuple es)] h = .ok (zipD ds es) h := id rfl
@[simp] theorem v_zipL {ds es : List PyData} {h : Hs} : zip? [.val (.list ds), .val (.list es)] h = .ok (zipD ds es) h := id rfl
@[simp] theorem v_srcZip {f : Av} {env : En} {h : Hs} : srcZip f env h = (f env h).bind fun ss h => zip? ss h := id rfl
/-! ### sorted(set(x)), x a tuple of whole numbers -/
theorem lt_unique : ∀ {l m : List Int}, l.Pairwise (· < ·) → m.Pairwise (· < ·) → (∀ k, k ∈ l ↔ k ∈ m) → l = m
  | [], [], _, _, _ => rfl
  | [], b :: m, _, _, h => absurd ((h b).mpr List.mem_cons_self) (by simp)
  | a :: l, [], _, _, h => absurd ((h a).mp List.mem_cons_self) (by simp)
  | a :: l, b :: m, h1, h2, h => by
    obtain ⟨p1, p2⟩ := List.pairwise_cons.mp h1
    obtain ⟨q1, q2⟩ := List.pairwise_cons.mp h2
    have e : a = b := by
      have ha := (h a).mp List.mem_cons_self
      have hb := (h b).mpr List.mem_cons_self
      rcases List.mem_cons.mp ha with z | z
      · exact z
      · rcases List.mem_cons.mp hb with y | y
        · exact y.symm
        · have := q1 a z
          have := p1 b y
          omega
    subst e
    congr 1
    refine lt_unique p2 q2 fun k => ?_
    have hk := h k
    rw [List.mem_cons, List.mem_cons] at hk
    constructor
    · intro z
      rcases hk.mp (.inr z) with y | y
      · have := p1 k z; omega
      · exact y
    · intro z
      rcases hk.mpr (.inr z) with y | y
      · have := q1 k z; omega
      · exact y
/-- put in, each once, rising -/
def insI (n : Int) : List Int → List Int
  | [] => [n]
  | m :: l => if n < m then n :: m :: l else if n = m then m :: l else m :: insI n l
theorem insI_mem {n k : Int} : ∀ l : List Int, k ∈ insI n l ↔ k = n ∨ k ∈ l
  | [] => by simp [insI]
  | m :: l => by
    unfold insI
    split
    · simp
    · split
      · rename_i h
        subst h
        simp
      · rw [List.mem_cons, insI_mem l, List.mem_cons]
        constructor
        · rintro (h | h | h)
          · exact .inr (.inl h)
          · exact .inl h
          · exact .inr (.inr h)
        · rintro (h | h | h)
          · exact .inr (.inl h)
          · exact .inl h
          · exact .inr (.inr h)
theorem insI_up {n : Int} : ∀ l : List Int, l.Pairwise (· < ·) → (insI n l).Pairwise (· < ·)
  | [], _ => by simp [insI]
  | m :: l, h => by
    obtain ⟨p1, p2⟩ := List.pairwise_cons.mp h
    unfold insI
    split
    · rename_i hn
      refine List.pairwise_cons.mpr ⟨fun k hk => ?_, h⟩
      rcases List.mem_cons.mp hk with z | z
      · omega
      · have := p1 k z; omega
    · split
      · exact h
      · refine List.pairwise_cons.mpr ⟨fun k hk => ?_, insI_up l p2⟩
        rcases (insI_mem l).mp hk with z | z
        · omega
        · exact p1 k z
def sdI (ns : List Int) : List Int := ns.foldr insI []
theorem sdI_mem {k : Int} : ∀ ns : List Int, k ∈ sdI ns ↔ k ∈ ns
  | [] => by simp [sdI]
  | n :: ns => by
    show k ∈ insI n (sdI ns) ↔ _
    rw [insI_mem, sdI_mem ns, List.mem_cons]
theorem sdI_up : ∀ ns : List Int, (sdI ns).Pairwise (· < ·)
  | [] => by simp [sdI]
  | n :: ns => insI_up _ (sdI_up ns)
theorem sdI_iff (ns : List Int) : ns = sdI ns ↔ ns.Pairwise (· < ·) := by
  constructor
  · intro h
    rw [h]
    exact sdI_up ns
  · intro h
    exact lt_unique h (sdI_up ns) fun k => (sdI_mem ns).symm
def gSortSet : Sl → Hs → Option PyData := fun s _ => match s with
  | .val (.tuple ds) => (ints? ds).bind fun ns => if ns.length < 60 then some (.list ((sdI ns).map .int)) else none
  | _ => none
section
variable {X : Cx} {C : Fc} {Wx : WX}
def tSortSet (K : PySem.W.Frag) (ta : TE) : TE := fun σ H Q => ta σ H fun x H1 => ∃ (l : Addr) (ns : List Int), x = .ref l ∧ SqT K H1 l (ns.map V.int) ∧ ns.length < 60 ∧ ∀ p, H1 p = none → Q (.ref p) (upd H1 p (.lst ((sdI ns).map V.int)))
theorem pe_sortSet {a : Expr} {ta : TE} {p p2 q pos : Pos} (hg : Gl X "sorted") (hm : X.mg "sorted" = none) (hg2 : Gl X "set") (hm2 : X.mg "set" = none) (ha : PE X a ta) (hc : X.calm = true := by rfl)
    (na : starEach [a] X.env = (false, eval a X.env) :: starEach [] X.env := by rfl) : PE X (.Call (.Name "sorted" p) [.Call (.Name "set" p2) [a] [] q] [] pos) (tSortSet X.K ta) := by
  refine ⟨fun pins s σ H Q I h => ?_⟩
  refine Call_ (ld_blt I hg hm (by decide +kernel : bootBuiltins "sorted" = some (.builtin "sorted")) ?_)
  refine PyProof.Rows.callWith_builtin1 (PyProof.Rows.args_cons ?_ rfl) rfl rfl
  refine Call_ (ld_blt I hg2 hm2 PyProof.Rows.boot_set ?_)
  refine PyProof.Rows.callWith_type1 (PyProof.Rows.args_cons (thn (ha.run pins s σ H _ I h) fun v s1 ⟨x, H1, I1, r1, q1⟩ => PyProof.Rows.args_nil ?_) na) na rfl
  obtain ⟨l, ns, rfl, hq, hl, q1⟩ := q1
  cases r1
  obtain ⟨its, r, pl, hz⟩ := I1.tuple hq
  have hi : IntsAre its ns := RZ.intsAre_vals r
  have hh := I1.ok.hd hc
  refine call_set_tupI ns hh pl (by simpa using hi) (by unfold scanBound; omega) fun h' tk c hS hcl hk => ?_
  refine PyProof.Rows.args_nil ?_
  have I2 : Inv X pins σ H1 { s1 with heap := h', toks := tk } := I1.kept hk
  refine sorted_set hS hh (by omega) fun s' p out c' ns' k1 g1 o1 hp ho hI hlt hmem hln => ?_
  have e : ns' = sdI ns := lt_unique hlt (sdI_up ns) fun k => by
    rw [hmem, sdI_mem]
    simp
  subst e
  have hlen : ((sdI ns).map V.int).length ≤ sizeLine := by rw [List.length_map, hln, sizeLine_eq]; omega
  have I3 := I2.laid (a := p) (o := .lst ((sdI ns).map V.int)) (t' := s'.toks) (h' := s'.heap) k1 hp ⟨hlen, out.toList, c', vals_of_ints hI, by simpa [seqObj] using ho⟩
  refine ⟨.ref p, upd H1 p (.lst ((sdI ns).map V.int)), ⟨I3.ok, by rw [o1]; exact I3.os, by rw [g1]; exact I3.bare, I3.base, I3.loc, I3.cell, I3.free, I3.freeC, I3.pin, I3.hok, I3.len⟩, rfl, q1 p (I2.hok.fresh hp)⟩
theorem fe_sortSet {a : Expr} {f : Ev} {p p2 q pos : Pos} (hc : X.calm = true) (hg : Gl X "sorted") (hm : X.mg "sorted" = none) (hg2 : Gl X "set") (hm2 : X.mg "set" = none) (ha : FE X C Wx a f)
    (na : starEach [a] X.env = (false, eval a X.env) :: starEach [] X.env := by rfl) : FE X C Wx (.Call (.Name "sorted" p) [.Call (.Name "set" p2) [a] [] q] [] pos) (cUn gSortSet f) := PE.imp (pe_sortSet hg hm hg2 hm2 ha hc na) fun σ H Q p => by
  refine rd.bind (f := f) (g := fun s env h => .give (gSortSet s h) h) p fun ρ1 env h1 s x H1 S1 E1 r1 P1 => ?_
  unfold gSortSet at P1
  split at P1
  · rename_i ds
    cases e1 : ints? ds with
    | none => rw [e1] at P1; exact P1.elim
    | some ns =>
      rw [e1] at P1
      dsimp only [Option.bind_some] at P1
      split at P1
      · rename_i hl
        cases (show Rp X.K H1 (Mo C ρ1) x (.tuple ds) from r1) with
        | tup q1 a1 =>
          have ev := ints_rel a1 e1
          subst ev
          exact ⟨_, ns, rfl, q1.sq, hl, fun p hp => P1 ρ1 _ _ (Ex.laid S1 hp) (S1.laid hp) (Rp.newLst S1 hp (rp_ints _))⟩
      · exact P1.elim
  · exact P1.elim
end
theorem v_sortSet {ns : List Int} {h : Hs} (hl : ns.length < 60) : gSortSet (.val (.tuple (ns.map .int))) h = some (.list ((sdI ns).map .int)) := by
  show ((ints? (ns.map .int)).bind fun ns => if ns.length < 60 then some (PyData.list ((sdI ns).map .int)) else none) = _
  have : ints? (ns.map PyData.int) = some ns := by
    have := ints_map (fun i : Int => i) ns
    simpa using this
  rw [this]
  dsimp only [Option.bind_some]
  rw [if_pos hl]
end FL

namespace FL
open PySem PySem.Spec PyProof.Rows L2 PySem.W
/-! ### min(xs) of a list of data that are alike -/
def nonB : PyData → Bool
  | .none => true
  | _ => false
def minB (ds : List PyData) : Bool := ds.all (fun d => ds.all fun e => alike d e) && ds.all (fun d => !nonB d) && decide (PyData.depthAll ds ≤ 60) && !PyData.hasDictAll ds
def gMinL : GL := fun ss h => match ss with
  | [s] => match litems s h with
    | some (x :: xs) => if minB (x :: xs) = true then some (minD x xs) else none
    | _ => none
  | _ => none
section
variable {prog : Program} {w : World} {A : Around} {s : Shared} {E : Value → Shared → Prop}
theorem min_list_at {l : Addr} {vs : Array Value} {x : PyData} {xs : List PyData} {as : List Addr} {Q : Value → Shared → Prop} (hh : A.handled = none) (hl : s.heap.IsList l vs) (hr : ReadsAll s.heap vs.toList (x :: xs) as) (ha : AlikeAll (x :: xs)) (hu : A.units + 1 + PyData.depthAll (x :: xs) < cLine)
    (h : ∀ (i : Nat) v h' tk, vs[i]? = some v → (x :: xs)[i]? = some (minD x xs) → (∀ b o, s.heap.get? b = some o → h'.get? b = some o) → Q v { s with heap := h', toks := tk }) :
    wpAny (model prog w) A (call (.builtin "min") [.ref l]) Q E s := by
  have hn : vs.size = xs.length + 1 := readsAll_len hr
  refine call_min_walkH (iter_listW (A := A.in1) hh hl fun s₂ e W st hfp hw hk => ?_)
  refine ⟨_, _, _, _, _, _, _, s.heap, _, rfl, W, st, hfp, by omega, hw, hk, cmpIn_lt (A := A.in1) hr ha (by show A.units + 1 + _ < _; exact hu), fun v s' hP m => ?_⟩
  obtain ⟨h', tk, rfl, hk'⟩ := moved_old e rfl m
  have e1 : vs.size - 1 = xs.length := by omega
  obtain ⟨e3, e2⟩ := argBest_fold dataLt PyData.none x xs xs.length (Nat.le_refl _)
  rw [List.take_length] at e2
  rw [e1] at hP
  refine h _ v h' tk hP ?_ hk'
  have hlt : argBest (fun i j => dataLt ((x :: xs).getD i .none) ((x :: xs).getD j .none)) xs.length < (x :: xs).length := Nat.lt_succ_of_le e3
  rw [List.getElem?_eq_getElem hlt]
  rw [List.getD_eq_getElem?_getD, List.getElem?_eq_getElem hlt] at e2
  unfold minD
  rw [← e2]
  rfl
end
section
variable {X : Cx} {C : Fc}
theorem c_minL (hc : X.calm = true) (hu : X.A.units + 65 < cLine) : CallR X (.builtin "min") (rdC X.K C gMinL) := fun pins s σ H xs us Q I r ⟨ρ, h, ss, d, S, r1, e, k⟩ => by
  unfold gMinL at e
  split at e
  · split at e
    · rename_i z zs ei
      split at e
      · rename_i c
        cases e
        obtain ⟨y, rfl, ry⟩ := SlVs.one r1
        obtain ⟨a, vs, rfl, sq, ra⟩ := litems_rel S ry ei
        obtain ⟨its, rv, hl, _⟩ := I.list sq
        rw [Vals.ref1 r]
        unfold minB at c
        rw [Bool.and_eq_true, Bool.and_eq_true, Bool.and_eq_true] at c
        obtain ⟨⟨⟨c1, c2⟩, c3⟩, c4⟩ := c
        have c3 := of_decide_eq_true c3
        have c4 : PyData.hasDictAll (z :: zs) = false := by simpa using c4
        obtain ⟨as, rr⟩ := Dp.readsAll I _ _ _ (RpAll.dp _ _ c4 ra) rv
        have ha : AlikeAll (z :: zs) := ⟨fun x hx y hy => List.all_eq_true.mp (List.all_eq_true.mp c1 x hx) y hy, fun x hx e => by
          have := List.all_eq_true.mp c2 x hx
          subst e
          cases this⟩
        refine min_list_at (I.ok.hd hc) hl.isList (by simpa using rr) ha (by omega) fun i u h' tk h1 h2 hk => ?_
        obtain ⟨v, hv, rp⟩ := RpAll.get ra h2
        refine ⟨v, H, I.kept hk, ?_, k _ H (Ex.refl _ _ _) S rp⟩
        have := Vals.getD rv i
        rw [List.getD_eq_getElem?_getD, hv, List.getD_eq_getElem?_getD] at this
        have h1' : its[i]? = some u := by simpa using h1
        rw [h1'] at this
        exact this
      · cases e
    · cases e
  · cases e
end
/-! ### the least of pairs -/
def pairD (p : Nat × Nat) : PyData := .tuple [.int (p.1 : Nat), .int (p.2 : Nat)]
theorem alike_pair (a b : Nat × Nat) : alike (pairD a) (pairD b) = true := by simp [pairD, alike, alikeAll]
theorem lt_pair (a b : Nat × Nat) : dataLt (pairD a) (pairD b) = decide (a.1 < b.1 ∨ (a.1 = b.1 ∧ a.2 < b.2)) := by
  unfold pairD
  rw [dataLt_pair (by simp [alike]) (by simp [alike]), dataLt_int, dataLt_int]
  simp only [PyData.eqv]
  by_cases h1 : a.1 = b.1
  · by_cases h2 : a.2 = b.2
    · simp [h1, h2]
    · simp [h1]
      by_cases h3 : a.2 < b.2
      · have : ¬ (a.2 : Int) = b.2 := by omega
        simp [h3, this]
      · simp [h3]
  · by_cases h3 : a.1 < b.1
    · have : ¬ (a.1 : Int) = b.1 := by omega
      simp [h1, h3, this]
    · have : ¬ (a.1 : Int) = b.1 := by omega
      simp [h1, h3, this]
theorem min_pairs : ∀ (x : Nat × Nat) (xs : List (Nat × Nat)), ∃ p ∈ x :: xs, minD (pairD x) (xs.map pairD) = pairD p ∧ ∀ q ∈ x :: xs, p.1 ≤ q.1
  | x, [] => ⟨x, List.mem_cons_self, rfl, fun q m => by rw [List.mem_singleton.mp m]; omega⟩
  | x, y :: xs => by
    by_cases h : dataLt (pairD y) (pairD x) = true
    · obtain ⟨p, hp, e, hq⟩ := min_pairs y xs
      refine ⟨p, List.mem_cons_of_mem _ hp, ?_, fun q m => ?_⟩
      · show List.foldl _ (if dataLt (pairD y) (pairD x) = true then pairD y else pairD x) (xs.map pairD) = _
        rw [if_pos h]
        exact e
      · rcases List.mem_cons.mp m with rfl | m
        · have h1 := hq y List.mem_cons_self
          rw [lt_pair] at h
          have := of_decide_eq_true h
          omega
        · exact hq q m
    · obtain ⟨p, hp, e, hq⟩ := min_pairs x xs
      refine ⟨p, ?_, ?_, fun q m => ?_⟩
      · rcases List.mem_cons.mp hp with rfl | m
        · exact List.mem_cons_self
        · exact List.mem_cons_of_mem _ (List.mem_cons_of_mem _ m)
      · show List.foldl _ (if dataLt (pairD y) (pairD x) = true then pairD y else pairD x) (xs.map pairD) = _
        rw [if_neg h]
        exact e
      · rcases List.mem_cons.mp m with rfl | m
        · exact hq _ List.mem_cons_self
        · rcases List.mem_cons.mp m with rfl | m
          · have h1 := hq x List.mem_cons_self
            rw [lt_pair] at h
            have h2 : ¬ (q.1 < x.1 ∨ (q.1 = x.1 ∧ q.2 < x.2)) := fun z => h (decide_eq_true z)
            omega
          · exact hq q (List.mem_cons_of_mem _ m)
theorem min_pairsB (xs : List (Nat × Nat)) : minB (xs.map pairD) = true := by
  unfold minB
  rw [Bool.and_eq_true, Bool.and_eq_true, Bool.and_eq_true]
  refine ⟨⟨⟨?_, ?_⟩, ?_⟩, ?_⟩
  · rw [List.all_eq_true]
    intro d m
    obtain ⟨a, _, rfl⟩ := List.mem_map.mp m
    rw [List.all_eq_true]
    intro e m
    obtain ⟨b, _, rfl⟩ := List.mem_map.mp m
    exact alike_pair a b
  · rw [List.all_eq_true]
    intro d m
    obtain ⟨a, _, rfl⟩ := List.mem_map.mp m
    rfl
  · have : PyData.depthAll (xs.map pairD) ≤ 2 := by
      induction xs with
      | nil => exact Nat.zero_le _
      | cons x xs ih =>
        show max (pairD x).depth (PyData.depthAll (xs.map pairD)) ≤ 2
        have : (pairD x).depth ≤ 2 := by simp [pairD, PyData.depth, PyData.depthAll]
        omega
    exact decide_eq_true (by omega)
  · have : PyData.hasDictAll (xs.map pairD) = false := by
      induction xs with
      | nil => rfl
      | cons x xs ih => 
        show ((pairD x).hasDict || PyData.hasDictAll (xs.map pairD)) = false
        rw [ih]
        rfl
    rw [this]
    rfl
theorem v_minPairs {x : Nat × Nat} {xs : List (Nat × Nat)} {h : Hs} : gMinL [.val (.list ((x :: xs).map pairD))] h = some (minD (pairD x) (xs.map pairD)) := by
  show (if minB ((x :: xs).map pairD) = true then _ else none) = _
  rw [if_pos (min_pairsB _)]
end FL

namespace FL
open PySem PySem.Spec PyProof.Rows L2
/-! ### tuple * 1 -/
theorem tuple_mul1W (l : Addr) (items : Array Value) (n : Nat) (dd : Option Addr) (sl : Array (Option Value)) (u : Tok) :
    Meets (Builtin.«tuple.__mul__» ⟨[.ref l, .int 1 u], []⟩) (fun _ R s => s.heap.get? l = some { cls := .type "tuple", dict := dd, data := .seq items n, slots := sl } ∧
      R (.ok (.ret (Value.ref l))) s) :=
  .of_wp fun prog w A R s h => by
    obtain ⟨hp, g, d, tk, os⟩ := s
    obtain ⟨hl, h⟩ := h
    have f1 := AutoSeq1.idx_int
    have c0 : (decide ((1 : Int) < -(2 ^ 63)) || decide ((1 : Int) ≥ 2 ^ 63)) = false := by decide
    have c1 : (items.isEmpty || (1 : Int) == 1) = true := by simp
    wp_walk using wpAny_loadPart' hl
    repeat (first
      | (refine wpAny_ite_false (decide_eq_false (by rw [c0]; exact Bool.false_ne_true)) ?_; wp_walk using wpAny_loadPart' hl)
      | (refine wpAny_ite_true (decide_eq_true (by rw [c1])) ?_; wp_walk using wpAny_loadPart' hl))
    exact ⟨_, rfl, h⟩
def rRepT1 (K : PySem.W.Frag) : R2 := fun x y H Q => ∃ l xs, x = .ref l ∧ y = .int 1 ∧ SqT K H l xs ∧ Q (.ref l) H
section
variable {X : Cx} {C : Fc}
theorem op_repT1 : OpR X (binaryOp .Mult) (rRepT1 X.K) := by
  intro pins s σ H x y v u Q I rx ry h
  obtain ⟨l, xs, rfl, rfl, hT, q⟩ := h
  cases rx
  obtain ⟨t, rfl⟩ := ry
  obtain ⟨its, r, ⟨⟨cls, dd, data, sl⟩, ho, hc, n, hd⟩, hs⟩ := I.tuple hT
  simp only at hc hd
  subst hc hd
  refine wpAny_binaryOp_repeat_ref (T := "tuple") (U := "int") (by decide) ⟨_, ho, rfl⟩ (fun s' => typeIs_int s' 1 t) noFill_tuple_mul F.fills_int_mul F.slot_int_rmul repeat_tuple F.slot_int_index.lookup
    (call_meets F.slot_int_rmul (typeIs_int s 1 t) F.entry_int_rmul (F.args_int_rmul_2 _ _) (int_rmul_tuple 1 t l its.toArray n dd sl)
      ⟨ho, rfl, ⟨_, ho, rfl⟩, call_meets F.slot_tuple_mul ⟨_, ho, rfl⟩ F.entry_tuple_mul (F.args_tuple_mul_2 _ _) (tuple_mul1W l its.toArray n dd sl t) ⟨ho, ?_⟩⟩)
  exact ⟨.ref l, H, I, rfl, q⟩
def gMulX : G2 := fun s t h => match s, t with
  | .val (.tuple a), .val (.int 1) => some (.tuple a)
  | s, t => gMul s t h
theorem o_mulX : OpR X (binaryOp .Mult) (rd2 X.K C gMulX) := OpR.imp ((o_mulT (C := C)).or op_repT1) fun x y H Q ⟨ρ, h, s, t, d, S, r1, r2, e, k⟩ => by
  unfold gMulX at e
  split at e
  · rename_i a
    cases e
    cases (show Rp X.K H (Mo C ρ) y (.int 1) from r2)
    have r1' : Rp X.K H (Mo C ρ) x (.tuple a) := r1
    have rk := k _ H (Ex.refl _ _ _) S r1'
    cases r1' with
    | tup q1 a1 => exact .inr ⟨_, _, rfl, rfl, q1.sq, rk⟩
  · exact .inl ⟨ρ, h, _, _, d, S, r1, r2, e, k⟩
/-! ### x is not True -/
theorem op_notB : OpR X (compareOp .IsNot) (fun x y H Q => ∃ a b, x = .bl a ∧ y = .bl b ∧ Q (.bl (!(a == b))) H) := by
  intro pins s σ H x y v u Q I rx ry h
  obtain ⟨a, b, rfl, rfl, q⟩ := h
  cases rx
  cases ry
  exact isnot_bool (fin_bl I q rfl)
def gNotX : G2 := fun s t h => match s, t with
  | .val (.bool a), .val (.bool b) => some (.bool (!(a == b)))
  | s, t => gNotN s t h
theorem o_isnotX : OpR X (compareOp .IsNot) (rd2 X.K C gNotX) := OpR.imp ((o_isnot (C := C)).or op_notB) fun x y H Q ⟨ρ, h, s, t, d, S, r1, r2, e, k⟩ => by
  unfold gNotX at e
  split at e
  · rename_i a b
    cases e
    cases (show Rp X.K H (Mo C ρ) x (.bool a) from r1)
    cases (show Rp X.K H (Mo C ρ) y (.bool b) from r2)
    exact .inr ⟨a, b, rfl, rfl, k _ H (Ex.refl _ _ _) S (.bl _)⟩
  · exact .inl ⟨ρ, h, _, _, d, S, r1, r2, e, k⟩
end
@[simp] theorem v_notXB {a b : Bool} {h : Hs} : gNotX (.val (.bool a)) (.val (.bool b)) h = some (.bool (!(a == b))) := id rfl
theorem v_mulX1 {a : List PyData} {h : Hs} : gMulX (.val (.tuple a)) (.val (.int 1)) h = some (.tuple a) := rfl
theorem v_mulX {x : PyData} {k : Nat} {h : Hs} (h1 : 1 ≤ k) (h2 : k ≤ 1000) : gMulX (.val (.tuple [x])) (.val (.int (k : Nat))) h = some (.tuple (List.replicate k x)) := by
  by_cases e : k = 1
  · subst e
    rfl
  · have e1 : gMulX (.val (.tuple [x])) (.val (.int (k : Nat))) h = gMul (.val (.tuple [x])) (.val (.int (k : Nat))) h := by
      unfold gMulX
      split
      · rename_i a q
        have : (k : Int) = 1 := by simpa using q
        omega
      · rfl
    rw [e1]
    show (if _ then _ else _) = _
    rw [if_pos ⟨by simp, by omega, by omega, by simp⟩]
    have : ∀ m : Nat, (List.replicate m [x]).flatten = List.replicate m x := by
      intro m
      induction m with
      | zero => rfl
      | succ m ih => rw [List.replicate_succ, List.replicate_succ, List.flatten_cons, ih]; rfl
    rw [Int.toNat_natCast, this]
end FL

namespace FL
open PySem PySem.Spec PyProof.Rows L2
/-! ### x or y, x None or a whole number -/
def eOrV (f g : Ev) : Ev := fun env h => (f env h).bind fun s h => match s with
  | .val .none => g env h
  | .val (.int i) => if i = 0 then g env h else .ok (.val (.int i)) h
  | _ => .bad
section
variable {X : Cx} {C : Fc} {Wx : WX} {a b : Expr} {f1 f2 : Ev} {rest : List Expr} {pos : Pos}
theorem fe_orV (ha : FE X C Wx a f1) (hb : FE X C Wx (.BoolOp .Or (b :: rest) pos) f2) : FE X C Wx (.BoolOp .Or (a :: b :: rest) pos) (eOrV f1 f2) := PE.imp (pe_orT ha hb) fun σ H Q p => by
  refine rd.bind (f := f1) (g := fun s env h => match s with
    | .val .none => f2 env h
    | .val (.int i) => if i = 0 then f2 env h else .ok (.val (.int i)) h
    | _ => .bad) p fun ρ1 env h1 s x H1 S1 E1 r1 P1 => ?_
  cases s with
  | loc n => exact P1.elim
  | inn n i => exact P1.elim
  | exn x => exact P1.elim
  | val d =>
    cases d with
    | none =>
      cases (show Rp X.K H1 (Mo C ρ1) x .none from r1)
      exact ⟨false, rfl, rd.of S1 E1 P1⟩
    | int i =>
      cases (show Rp X.K H1 (Mo C ρ1) x (.int i) from r1)
      by_cases q : i = 0
      · subst q
        exact ⟨false, rfl, rd.of S1 E1 P1⟩
      · have P1' : Po X.K X.mg C Wx σ ρ1 H1 (relE X.K C) (if i = 0 then f2 env h1 else .ok (.val (.int i)) h1) Q := P1
        rw [if_neg q] at P1'
        refine ⟨true, ?_, P1' ρ1 (.int i) H1 (Ex.refl _ _ _) S1 (Rp.int i)⟩
        show true = (i != 0)
        simp [q]
    | _ => exact P1.elim
end
def orV? (s : Sl) (h : Hs) (r : Rz Sl) : Rz Sl := match s with
  | .val .none => r
  | .val (.int i) => if i = 0 then r else .ok (.val (.int i)) h
  | _ => .bad
@[simp] theorem v_orV {f g : Ev} {env : En} {h : Hs} : eOrV f g env h = (f env h).bind fun s h => orV? s h (g env h) := by
  unfold eOrV orV?
  rfl
@[simp] theorem v_orVN {h : Hs} {r : Rz Sl} : orV? (.val .none) h r = r := id rfl
@[simp] theorem v_orVI {h : Hs} {i : Int} {r : Rz Sl} : orV? (.val (.int i)) h r = if i = 0 then r else .ok (.val (.int i)) h := id rfl
end FL

namespace FL
open PySem PySem.Spec PyProof.Rows L2
/-! ### str(int), sep.join(list of texts), text or text, own dicts by texts -/
def gStr : GL := fun ss _ => match ss with
  | [.val (.int i)] => if i.natAbs.log2 < 1920 then some (.str (toString i)) else none
  | _ => none
def txts? : List PyData → Option (List Str)
  | [] => some []
  | .str b :: r => (txts? r).map (b :: ·)
  | _ :: _ => none
theorem txts_rel {K : PySem.W.Frag} {H : Hp} {M : Ms} : ∀ {ds : List PyData} {vs : List V} {ys : List Str}, RpAll K H M vs ds → txts? ds = some ys → vs = ys.map V.str
  | [], _, _, .nil, e => by cases e; rfl
  | .str b :: ds, _, _, .cons h t, e => by
    obtain ⟨r, e1, rfl⟩ := Option.map_eq_some_iff.mp (show (txts? ds).map (b :: ·) = some _ from e)
    cases h
    rw [txts_rel t e1]
    rfl
def gJoin (sep : Str) : Sl → Hs → Option PyData := fun s h => match (litems s h).bind txts? with
  | some ys => if (ys.map (·.length)).sum + ys.length * sep.length ≤ 16777216 then some (.str (Txt.join sep ys)) else none
  | none => none
def eOrS (f g : Ev) : Ev := fun env h => (f env h).bind fun s h => match s with
  | .val (.str t) => if t.length = 0 then g env h else if t.length ≤ 16777216 then .ok (.val (.str t)) h else .bad
  | _ => .bad
def keyT (s : Sl) : Option Key := match s with
  | .val (.int i) => some (.inl i)
  | .val (.str t) => some (.inr t)
  | _ => none
theorem keyT_rel {K : PySem.W.Frag} {C : Fc} {ρ : Fps} {H : Hp} {s : Sl} {v : V} {k : Key} (r : SlV K C ρ H v s) (e : keyT s = some k) : v = kV k := by
  unfold keyT at e
  split at e
  · rename_i i
    cases e
    cases (show Rp K H (Mo C ρ) v (.int i) from r)
    rfl
  · rename_i i
    cases e
    cases (show Rp K H (Mo C ρ) v (.str i) from r)
    rfl
  · cases e
def setdAt (s t u : Sl) (h : Hs) : Rz Sl := match s, keyT t, u with
  | .loc n, some k, .val d => match obK h[n]? with
    | some kvs => match lookD kvs k with
      | some d' => if kvs.length < 16777216 then .ok (.val d') h else .bad
      | none => if kvs.length < 16777216 then .ok (.val d) (h.set n (.dic (putD kvs k d))) else .bad
    | none => .bad
  | _, _, _ => .bad
def eSetd (f1 f2 f3 : Ev) : Ev := fun env h => (f1 env h).bind fun s h => if (dicS s h).isSome = true then (f2 env h).bind fun t h => (f3 env h).bind fun u h => setdAt s t u h else .bad
def eDic0 : Ev := fun _ h => .ok (.loc h.length) (h ++ [.dic []])
section
variable {X : Cx} {C : Fc} {Wx : WX}
theorem c_str : CallR X (.type "str") (rdC X.K C gStr) := CallR.imp call_str_int fun xs H Q ⟨ρ, h, ss, d, S, r, e, k⟩ => by
  unfold gStr at e
  split at e
  · rename_i i
    split at e
    · rename_i hi
      cases e
      obtain ⟨x, rfl, ro⟩ := r.one
      cases (show Rp X.K H (Mo C ρ) x (.int i) from ro)
      exact ⟨i, rfl, hi, k _ H (Ex.refl _ _ _) S (.str _)⟩
    · cases e
  · cases e
theorem fe_joinK {o e : Expr} {sep : Str} {f : Ev} {apos pos : Pos} (ho : PE X o (tC (.str sep))) (he : FE X C Wx e f) (hs : starEach [e] X.env = [(false, eval e X.env)] := by rfl) (hbase : attributeBase o "join" X.env (eval o X.env) = eval o X.env := by rfl) (hline : (apos.endLine == pos.line) = true := by rfl) :
    FE X C Wx (.Call (.Attribute o "join" apos) [e] [] pos) (cUn (gJoin sep) f) := PE.imp (pe_join ho he hs hbase hline) fun σ H Q p => by
  have p1 := rd.un p
  refine ⟨⟨sep, rfl⟩, ?_⟩
  obtain ⟨ρ, env, h, S, E, P⟩ := p1
  refine ⟨ρ, env, h, S, E, Po.mono P fun x H1 q => ?_⟩
  obtain ⟨ρ, h, s, d, S, r, e, k⟩ := q
  unfold gJoin at e
  split at e
  · rename_i ys e1
    split at e
    · rename_i hz
      cases e
      obtain ⟨ds, e2, e3⟩ := Option.bind_eq_some_iff.mp e1
      obtain ⟨a, vs, rfl, sq, ra⟩ := litems_rel S r e2
      have ev := txts_rel ra e3
      subst ev
      exact ⟨sep, a, ys, rfl, rfl, .inl sq, hz, k _ H1 (Ex.refl _ _ _) S (.str _)⟩
    · cases e
  · cases e
theorem fe_orS {a b : Expr} {f1 f2 : Ev} {rest : List Expr} {pos : Pos} (ha : FE X C Wx a f1) (hb : FE X C Wx (.BoolOp .Or (b :: rest) pos) f2) : FE X C Wx (.BoolOp .Or (a :: b :: rest) pos) (eOrS f1 f2) := PE.imp (pe_orT ha hb) fun σ H Q p => by
  refine rd.bind (f := f1) (g := fun s env h => match s with
    | .val (.str t) => if t.length = 0 then f2 env h else if t.length ≤ 16777216 then .ok (.val (.str t)) h else .bad
    | _ => .bad) p fun ρ1 env h1 s x H1 S1 E1 r1 P1 => ?_
  cases s with
  | loc n => exact P1.elim
  | inn n i => exact P1.elim
  | exn x => exact P1.elim
  | val d =>
    cases d with
    | str t =>
      cases (show Rp X.K H1 (Mo C ρ1) x (.str t) from r1)
      have P1' : Po X.K X.mg C Wx σ ρ1 H1 (relE X.K C) (if t.length = 0 then f2 env h1 else if t.length ≤ 16777216 then .ok (.val (.str t)) h1 else .bad) Q := P1
      by_cases q : t.length = 0
      · rw [if_pos q] at P1'
        exact ⟨false, ⟨by rw [sizeLine_eq]; omega, by simp [q]⟩, rd.of S1 E1 P1'⟩
      · rw [if_neg q] at P1'
        by_cases q2 : t.length ≤ 16777216
        · rw [if_pos q2] at P1'
          refine ⟨true, ⟨by rw [sizeLine_eq]; exact q2, ?_⟩, P1' ρ1 (.str t) H1 (Ex.refl _ _ _) S1 (Rp.str t)⟩
          have : ((t.length : Int) != 0) = true := by rw [bne_iff_ne]; omega
          rw [this]
        · rw [if_neg q2] at P1'
          exact P1'.elim
    | _ => exact P1.elim
theorem fe_dic0 {pos : Pos} : FE X C Wx (.Dict [] [] pos) eDic0 := by
  refine PE.imp pe_dnewK fun σ H Q p => ?_
  obtain ⟨ρ, env, h, S, E, P⟩ := p
  intro q hq
  have S' := S.push (o := .dK []) (ob := .dic []) hq ⟨q, _, rfl, upd_same, rfl, .nil⟩
  refine P (ρ ++ [[q]]) (.ref q) _ (Ex.push hq) S' ?_
  rw [← S.len]
  exact SlV.pushed _
theorem fe_setd {o e g : Expr} {f1 f2 f3 : Ev} {apos cpos : Pos} (ho : FE X C Wx o f1) (he : FE X C Wx e f2) (hg : FE X C Wx g f3) (m1 : attributeBase o "setdefault" X.env (eval o X.env) = eval o X.env := by rfl) (m2 : ((backTo cpos (starEach [e, g] X.env)).all (fun x => !x.1) && (backToKw cpos (keywordEach [] X.env)).all (fun x => x.1.isSome) && decide (([e, g] : List Expr).length + ([] : List Keyword).length + (if ([] : List Keyword).isEmpty then 0 else 1) < 30)) = true := by rfl) (m3 : (apos.endLine == cpos.line) = true := by rfl) (m4 : backTo cpos (starEach [e, g] X.env) = [(false, eval e X.env), (false, eval g X.env)] := by rfl) :
    FE X C Wx (.Call (.Attribute o "setdefault" apos) [e, g] [] cpos) (eSetd f1 f2 f3) := PE.imp (pe_dsetd ho he hg ⟨m1, m2, m3, m4⟩) fun σ H Q p => by
  refine rd.bind (f := f1) (g := fun s env h => if (dicS s h).isSome = true then (f2 env h).bind fun t h => (f3 env h).bind fun u h => setdAt s t u h else .bad) p fun ρ1 env h1 s x H1 S1 E1 r1 P1 => ?_
  split at P1
  · rename_i hs
    obtain ⟨kvs, ek⟩ := Option.isSome_iff_exists.mp hs
    obtain ⟨n, a, vs, rfl, rfl, _, _, D⟩ := dic_rel S1 r1 ek
    refine ⟨a, rfl, .inl ⟨vs, .inl D.at_⟩, rd.of (env := env) (h := h1) S1 E1 ?_⟩
    cases q : f2 env h1 with
    | bad => rw [q] at P1; exact P1
    | err y h2 => rw [q] at P1; exact P1
    | ok t h2 =>
      intro ρ2 y H2 x2 S2 r2
      rw [q, v_bind] at P1
      have P2 := Po.ex x2 P1
      refine rd.of (env := env) (h := h2) S2 (E1.ex x2) ?_
      cases q2 : f3 env h2 with
      | bad => rw [q2] at P2; exact P2
      | err y h2 => rw [q2] at P2; exact P2
      | ok u h3 =>
        intro ρ3 z H3 x3 S3 r3
        rw [q2, v_bind] at P2
        have P3 := Po.ex x3 P2
        unfold setdAt at P3
        split at P3
        · rename_i n' k d en ekt
          cases en
          cases qo : obK h3[n]? with
          | none => rw [qo] at P3; exact P3.elim
          | some kvs3 =>
            rw [qo] at P3
            dsimp only at P3
            obtain ⟨n2, a2, vs2, en, ea, e1, e2, D2⟩ := dic_rel (s := .loc n) S3 (SlV.ex (x2.trans x3) r1) qo
            cases en
            cases ea
            have ey := keyT_rel (SlV.ex x3 r2) ekt
            subst ey
            have rv : Rp X.K H3 (Mo C ρ3) z d := r3
            have lk := look_rel (k := k) D2.keys D2.all
            cases ql : lookD kvs3 k with
            | some d' =>
              rw [ql] at P3 lk
              dsimp only at P3 lk
              split at P3
              · rename_i hl
                obtain ⟨v, ev, rv'⟩ := lk
                refine ⟨vs2, k, D2.at_, rfl, by rw [D2.len, sizeLine_eq]; exact hl, fun v' ev' => ?_, fun z => ?_⟩
                · rw [ev] at ev'
                  cases ev'
                  exact P3 ρ3 v H3 (Ex.refl _ _ _) S3 rv'
                · rw [ev] at z
                  cases z
              · exact P3.elim
            | none =>
              rw [ql] at P3 lk
              dsimp only at P3 lk
              split at P3
              · rename_i hl
                refine ⟨vs2, k, D2.at_, rfl, by rw [D2.len, sizeLine_eq]; exact hl, fun v' ev' => ?_, fun _ => ?_⟩
                · rw [lk] at ev'
                  cases ev'
                · have st : Stp (Mo C ρ3) H3 (Mo C ρ3) (upd H3 a (.dK (putK vs2 k z))) := ⟨keepE fun b u z nm => by
                    have : b ≠ a := fun w => nm (w ▸ .inl (flat_at e1 (by simp)))
                    rw [upd_ne this]; exact z, fun _ mm => .inl mm⟩
                  obtain ⟨p1, p2⟩ := dput_rel (k := k) rv D2.keys D2.all
                  have W := S3.write (ob := .dic (putD kvs3 k d)) (o := .dK (putK vs2 k z)) e1 ⟨a, _, rfl, upd_same, p1, p2.stp st⟩
                  exact P3 ρ3 z _ W.2 W.1 (SlV.ex W.2 r3)
              · exact P3.elim
        · exact P3.elim
  · exact P1.elim
end
/-! ### reckoning -/
section
variable {env : En} {h : Hs} {f1 f2 f3 : Ev} {kvs : List (Key × PyData)} {i : Int} {d : PyData} {n : Nat} {t sep : Str}
@[simp] theorem v_gStr : gStr [.val (.int i)] h = if i.natAbs.log2 < 1920 then some (.str (toString i)) else none := id rfl
def join? (sep : Str) (o : Option (List Str)) : Option PyData := match o with
  | some ys => if (ys.map (·.length)).sum + ys.length * sep.length ≤ 16777216 then some (.str (Txt.join sep ys)) else none
  | none => none
@[simp] theorem v_gJoin {s : Sl} : gJoin sep s h = join? sep ((litems s h).bind txts?) := by
  unfold gJoin join?
  rfl
theorem v_join {ys : List Str} (hz : (ys.map (·.length)).sum + ys.length * sep.length ≤ 16777216) : join? sep (some ys) = some (.str (Txt.join sep ys)) := if_pos hz
def orS? (s : Sl) (h : Hs) (r : Rz Sl) : Rz Sl := match s with
  | .val (.str t) => if t.length = 0 then r else if t.length ≤ 16777216 then .ok (.val (.str t)) h else .bad
  | _ => .bad
@[simp] theorem v_orS : eOrS f1 f2 env h = (f1 env h).bind fun s h => orS? s h (f2 env h) := by
  unfold eOrS orS?
  rfl
@[simp] theorem v_orST {r : Rz Sl} : orS? (.val (.str t)) h r = if t.length = 0 then r else if t.length ≤ 16777216 then .ok (.val (.str t)) h else .bad := id rfl
@[simp] theorem v_keyTi : keyT (.val (.int i)) = some (.inl i) := id rfl
@[simp] theorem v_keyTs : keyT (.val (.str t)) = some (.inr t) := id rfl
@[simp] theorem v_dic0 : eDic0 env h = .ok (.loc h.length) (h ++ [.dic []]) := id rfl
def setd? (o : Option (List (Key × PyData))) (r : Rz Sl) : Rz Sl := if o.isSome = true then r else .bad
@[simp] theorem v_setd2 {r : Rz Sl} : setd? (some kvs) r = r := id rfl
@[simp] theorem v_eSetd : eSetd f1 f2 f3 env h = (f1 env h).bind fun s h => setd? (dicS s h) ((f2 env h).bind fun t h => (f3 env h).bind fun u h => setdAt s t u h) := id rfl
theorem v_setdOld {x y : PyData} (e : h[n]? = some (.dic kvs)) (l : lookD kvs (.inr t) = some y) (hl : kvs.length < 16777216) : setdAt (.loc n) (.val (.str t)) (.val x) h = .ok (.val y) h := by
  unfold setdAt
  simp only [v_keyTs]
  rw [e, v_obK]
  dsimp only
  rw [l]
  dsimp only
  rw [if_pos hl]
theorem v_setdNew {x : PyData} (e : h[n]? = some (.dic kvs)) (l : lookD kvs (.inr t) = none) (hl : kvs.length < 16777216) : setdAt (.loc n) (.val (.str t)) (.val x) h = .ok (.val x) (h.set n (.dic (putD kvs (.inr t) x))) := by
  unfold setdAt
  simp only [v_keyTs]
  rw [e, v_obK]
  dsimp only
  rw [l]
  dsimp only
  rw [if_pos hl]
end
end FL

namespace FL
open PySem PySem.Spec PyProof.Rows L2
/-! ### dicts of lists of the def's own -/
section
variable {K : PySem.W.Frag} {C : Fc} {ρ : Fps} {h : Hs} {H : Hp}
/-- an object is changed; it may gain new parts -/
theorem SimH.chg (S : SimH K C ρ h H) {n : Nat} {fp fq : List Addr} {o o' : Ob} {H' : Hp} (hn : fq = [] ∨ C.W.length ≤ n) (e1 : ρ[n]? = some fp) (e2 : h[n]? = some o) (nd' : (ρ.set n (fp ++ fq)).flatten.Nodup) (hq : ∀ b ∈ fq, H b = none)
    (same : ∀ c, c ∉ fp → c ∉ fq → H' c = H c) (there : ∀ c, c ∈ fp ++ fq → ∃ o, H' c = some o) (x : Stp (Mo C ρ) H (Mo C (ρ.set n (fp ++ fq))) H' → ObOk K H' (Mo C (ρ.set n (fp ++ fq))) (fp ++ fq) o') :
    SimH K C (ρ.set n (fp ++ fq)) (h.set n o') H' ∧ Ex C ρ H (ρ.set n (fp ++ fq)) H' := by
  have mfp : ∀ c ∈ fp, c ∈ ρ.flatten := fun c m => flat_at e1 m
  have nb : ∀ b ∈ fq, b ∉ ρ.flatten := fun b m z => by
    obtain ⟨o, q⟩ := S.trk b z
    rw [hq b m] at q; cases q
  have nbar : ∀ b ∈ fq, ¬ C.Bar b := fun b m z => by
    obtain ⟨_, o, q⟩ := S.bar b z
    rw [hq b m] at q; cases q
  have sm : ∀ c u, H c = some u → c ∉ fp → H' c = some u := fun c u q nf => by
    rw [same c nf fun z => by rw [hq c z] at q; cases q]
    exact q
  have sp : ∀ c ∈ fp ++ fq, c ∈ ρ.flatten ∨ c ∈ fq := fun c m => by
    rcases List.mem_append.mp m with z | z
    · exact .inl (mfp c z)
    · exact .inr z
  have fl : ∀ c, c ∈ (ρ.set n (fp ++ fq)).flatten → c ∈ ρ.flatten ∨ c ∈ fq := fun c m => by
    rcases flat_setF e1 m with z | z
    · exact .inl z
    · exact sp c z
  have Mnew : ∀ c, Mo C (ρ.set n (fp ++ fq)) c → Mo C ρ c ∨ c ∈ fq := fun c m => by
    rcases m with m | m
    · rcases fl c m with z | z
      · exact .inl (.inl z)
      · exact .inr z
    · exact .inl (.inr m)
  have st : Stp (Mo C ρ) H (Mo C (ρ.set n (fp ++ fq))) H' := ⟨keepE fun c u q nm => sm c u q fun z => nm (.inl (mfp c z)), fun c m => by
    rcases Mnew c m with z | z
    · exact .inl z
    · exact .inr (hq c z)⟩
  have tk : TabKp H H' := ⟨fun c ps q => sm c _ q fun z => by
    obtain ⟨u, hu, nt⟩ := ObOk.nte (S.obj n fp o e1 e2) z
    rw [q] at hu
    cases hu
    exact nt.1 _ rfl, fun c f q => sm c _ q fun z => by
    obtain ⟨u, hu, nt⟩ := ObOk.nte (S.obj n fp o e1 e2) z
    rw [q] at hu
    cases hu
    exact nt.2 _ rfl⟩
  have nln : n < ρ.length := (List.getElem?_eq_some_iff.mp e1).1
  have at_ : ∀ a, (∃ u, H a = some u) ∨ a ∈ fp ++ fq → ∃ u, H' a = some u := fun a q => by
    rcases q with ⟨u, q⟩ | q
    · by_cases z : a ∈ fp
      · exact there a (List.mem_append_left _ z)
      · exact ⟨u, sm a u q z⟩
    · exact there a q
  refine ⟨⟨by rw [List.length_set, List.length_set]; exact S.len, nd', fun a m => ?_, fun k fr ob q1 q2 => ?_, fun c u q nw => ?_, fun a m => ?_, fun c m => ?_, fun a m => at_ a (.inl (S.wtr a m)), fun k fr q => ?_, tk.tabs S.tab⟩, st, fun k fr q => ?_⟩
  · rcases flat_setF e1 m with z | z
    · exact at_ a (.inl (S.trk a z))
    · exact at_ a (.inr z)
  · by_cases hk : n = k
    · subst hk
      rw [List.getElem?_set, if_pos rfl] at q1 q2
      rw [if_pos nln] at q1
      cases q1
      split at q2
      · cases q2
        exact x st
      · cases q2
    · rw [List.getElem?_set_ne hk] at q1 q2
      refine ObOk.stp st (fun c m => ?_) (S.obj k fr ob q1 q2)
      have mc := flat_at q1 m
      exact same c (fun z => hk (nodup_apart S.nd e1 q1 z m)) (fun z => nb c z mc)
  · obtain ⟨u', q', kk⟩ := S.frK c u q nw
    refine ⟨u', sm c u' q' fun z => ?_, kk⟩
    rcases S.own c (mfp c z) with w' | w'
    · exact nw w'
    · rw [q] at w'; cases w'
  · rcases fl a m with z | z
    · exact S.own a z
    · by_cases hw : a ∈ C.W.flatten
      · exact .inl hw
      · refine .inr ?_
        cases q : C.H0 a with
        | none => rfl
        | some u =>
          obtain ⟨u', q', _⟩ := S.frK a u q hw
          rw [hq a z] at q'; cases q'
  · obtain ⟨n1, u, e⟩ := S.bar c m
    refine ⟨fun z => ?_, u, sm c u e fun z => n1 (mfp c z)⟩
    rcases fl c z with y | y
    · exact n1 y
    · exact nbar c y m
  · have e' := S.pre k fr q
    by_cases hk : n = k
    · subst hk
      rcases hn with z | z
      · subst z
        rw [e1] at e'
        cases e'
        rw [List.getElem?_set, if_pos rfl, if_pos nln, List.append_nil]
      · have := (List.getElem?_eq_some_iff.mp q).1
        omega
    · rw [List.getElem?_set_ne hk]
      exact e'
  · by_cases hk : n = k
    · subst hk
      rw [e1] at q
      cases q
      exact ⟨fp ++ fq, by rw [List.getElem?_set, if_pos rfl, if_pos nln], ⟨fq, rfl⟩⟩
    · exact ⟨fr, by rw [List.getElem?_set_ne hk]; exact q, pfx_rfl⟩
theorem set_self {ρ : Fps} {n : Nat} {fp : List Addr} (e : ρ[n]? = some fp) : ρ.set n fp = ρ := by
  apply List.ext_getElem?
  intro i
  by_cases hi : n = i
  · subst hi
    rw [List.getElem?_set, if_pos rfl, if_pos (List.getElem?_eq_some_iff.mp e).1, e]
  · rw [List.getElem?_set_ne hi]
theorem fp_nd (S : SimH K C ρ h H) {n : Nat} {fp : List Addr} (e : ρ[n]? = some fp) : fp.Nodup := S.nd.sublist (List.sublist_flatten_of_mem (List.mem_of_getElem? e))
end
def lookN (ks : List (Key × Nat)) (k : Key) : Option Nat := (ks.find? fun r => decide (r.1 = k)).map (·.2)
def dropN (ks : List (Key × Nat)) (k : Key) : List (Key × Nat) := ks.filter fun r => decide (r.1 ≠ k)
def rfs (bs : List Addr) (ks : List (Key × Nat)) : List (Key × V) := ks.map fun r => (r.1, V.ref (bs.getD r.2 0))
theorem val_rfs {bs : List Addr} {k : Key} : ∀ ks : List (Key × Nat), valV (rfs bs ks) k = (lookN ks k).map fun i => V.ref (bs.getD i 0)
  | [] => rfl
  | r :: ks => by
    have ih := val_rfs (bs := bs) (k := k) ks
    by_cases e : r.1 = k
    · have e1 : lookN (r :: ks) k = some r.2 := by unfold lookN; rw [List.find?_cons]; simp [e]
      rw [e1]
      exact valV_pos (p := (r.1, V.ref (bs.getD r.2 0))) e
    · have e1 : lookN (r :: ks) k = lookN ks k := by unfold lookN; rw [List.find?_cons]; simp [e]
      rw [e1, ← ih]
      exact valV_neg (p := (r.1, V.ref (bs.getD r.2 0))) e
theorem drop_rfs {bs : List Addr} {k : Key} (ks : List (Key × Nat)) : dropK (rfs bs ks) k = rfs bs (dropN ks k) := by
  unfold dropK rfs dropN
  rw [List.filter_map]
  rfl
theorem look_mem {ks : List (Key × Nat)} {k : Key} {i : Nat} (e : lookN ks k = some i) : ∃ r ∈ ks, r.2 = i := by
  unfold lookN at e
  obtain ⟨r, e1, e2⟩ := Option.map_eq_some_iff.mp e
  exact ⟨r, List.mem_of_find?_eq_some e1, e2⟩
theorem put_rfs {bs : List Addr} {k : Key} {v : V} {ks : List (Key × Nat)} (e : lookN ks k = none) : putK (rfs bs ks) k v = rfs bs ks ++ [(k, v)] := by
  unfold putK
  rw [valV_any, val_rfs, e]
  rfl
theorem rfs_app {bs : List Addr} {b : Addr} {ks : List (Key × Nat)} (h : ∀ r ∈ ks, r.2 < bs.length) : rfs (bs ++ [b]) ks = rfs bs ks := by
  unfold rfs
  refine List.map_congr_left fun r m => ?_
  have := h r m
  rw [List.getD_eq_getElem?_getD, List.getD_eq_getElem?_getD, List.getElem?_append_left this]
def dil? (o : Option Ob) : Option (List (List PyData) × List (Key × Nat)) := match o with
  | some (.dil dss ks) => some (dss, ks)
  | _ => none
theorem dil_some {o : Option Ob} {p : List (List PyData) × List (Key × Nat)} (e : dil? o = some p) : o = some (.dil p.1 p.2) := by
  unfold dil? at e
  split at e
  · cases e; rfl
  · cases e
def dilS (s : Sl) (h : Hs) : Option (List (List PyData) × List (Key × Nat)) := match s with
  | .loc n => dil? h[n]?
  | _ => none
/-- d.setdefault(k, []) -/
def setLAt (w : Nat) (s t : Sl) (h : Hs) : Rz Sl := match s, keyT t with
  | .loc n, some k => match dil? h[n]? with
    | some p => if p.2.length < 16777216 then (match lookN p.2 k with
      | some i => .ok (.inn n i) h
      | none => if w ≤ n then .ok (.inn n p.1.length) (h.set n (.dil (p.1 ++ [[]]) (p.2 ++ [(k, p.1.length)]))) else .bad) else .bad
    | none => .bad
  | _, _ => .bad
def eSetL (w : Nat) (f1 f2 : Ev) : Ev := fun env h => (f1 env h).bind fun s h => if (dilS s h).isSome = true then (f2 env h).bind fun t h => setLAt w s t h else .bad
/-- d.pop(k, []) -/
def popLAt (s t : Sl) (h : Hs) : Rz Sl := match s, keyT t with
  | .loc n, some k => match dil? h[n]? with
    | some p => (match lookN p.2 k with
      | some i => .ok (.inn n i) (h.set n (.dil p.1 (dropN p.2 k)))
      | none => .ok (.val (.list [])) h)
    | none => .bad
  | _, _ => .bad
def ePopL (f1 f2 : Ev) : Ev := fun env h => (f1 env h).bind fun s h => if (dilS s h).isSome = true then (f2 env h).bind fun t h => popLAt s t h else .bad
/-- d != {} -/
def gNeD : G2 := fun s t h => match dilS s h, t with
  | some p, .val (.dict []) => some (.bool (!p.2.isEmpty))
  | _, _ => none
section
variable {K : PySem.W.Frag} {C : Fc} {ρ : Fps} {h : Hs} {H : Hp}
theorem dil_rel {s : Sl} {v : V} {p : List (List PyData) × List (Key × Nat)} (S : SimH K C ρ h H) (r : SlV K C ρ H v s) (e : dilS s h = some p) : ∃ (n : Nat) (a : Addr) (bs : List Addr), s = .loc n ∧ v = .ref a ∧ ρ[n]? = some (a :: bs) ∧ h[n]? = some (.dil p.1 p.2) ∧ H a = some (.dK (rfs bs p.2)) ∧ (∀ r ∈ p.2, r.2 < bs.length) ∧ bs.length = p.1.length ∧ ∀ (i : Nat) (b : Addr) (ds : List PyData), bs[i]? = some b → p.1[i]? = some ds → ∃ vs, H b = some (.lst vs) ∧ RpAll K H (Mo C ρ) vs ds := by
  unfold dilS at e
  split at e
  · rename_i n
    have e1 := dil_some e
    obtain ⟨fp, a, e2, e3, rfl⟩ := r
    obtain ⟨b, bs, rfl, h1, h2, h3, h4⟩ := S.obj n fp _ e2 e1
    have : b = a := by simpa using e3
    subst this
    exact ⟨n, b, bs, rfl, rfl, e2, e1, h1, h2, h3, h4⟩
  · cases e
end
section
variable {X : Cx} {C : Fc} {Wx : WX}
theorem o_neD (hu : X.A.units + 65 < cLine) : OpR X (compareOp .NotEq) (rd2 X.K C gNeD) := by
  intro pins s σ H x y v u Q I rx ry ⟨ρ, h, s1, t1, d, S, r1, r2, e, k⟩
  unfold gNeD at e
  split at e
  · rename_i p e1
    cases e
    obtain ⟨n, a, bs, rfl, rfl, _, _, hD, _⟩ := dil_rel S r1 e1
    obtain rfl : v = Value.ref a := rx
    cases (show Rp X.K H (Mo C ρ) y (.dict []) from r2) with
    | @dct b ps ds hq hds =>
      have hps : ps = [] := by
        cases ps with
        | nil => rfl
        | cons _ _ => cases hds
      subst hps
      obtain rfl : u = Value.ref b := ry
      have eb : H b = some (.dK []) := hq.1
      obtain ⟨_, ya, va, ra, da⟩ := (show ObjOk X.prog X.w H s.heap a (.dK (rfs bs p.2)) from I.hok a _ hD)
      obtain ⟨_, yb, vb, rb, db⟩ := (show ObjOk X.prog X.w H s.heap b (.dK []) from I.hok b _ eb)
      have lb : vb.length = 0 := by rw [← rb.length]; rfl
      have la : va.length = p.2.length := by rw [← ra.length]; simp [rfs]
      refine PySem.W.keq_ne (knd := mixKind X.prog X.w) (r := true) ya yb da db (by omega) (fun z => ?_) (fin_bl I (k _ H (Ex.refl _ _ _) S (.bl _)) ?_)
      · have : rfs bs p.2 = [] := by
          have : p.2 = [] := List.eq_nil_of_length_eq_zero (by omega)
          rw [this]
          rfl
        rw [this] at ra
        exact hits_all rb ra (fun q m => nomatch m)
      · rw [la, lb]
        cases p.2 <;> simp
  · cases e
theorem fe_setL {w : Nat} {o e : Expr} {f1 f2 : Ev} {lp apos cpos : Pos} (hW : C.W.length = w) (ho : FE X C Wx o f1) (he : FE X C Wx e f2) (m1 : attributeBase o "setdefault" X.env (eval o X.env) = eval o X.env := by rfl) (m2 : ((backTo cpos (starEach [e, .List [] lp] X.env)).all (fun x => !x.1) && (backToKw cpos (keywordEach [] X.env)).all (fun x => x.1.isSome) && decide (([e, .List [] lp] : List Expr).length + ([] : List Keyword).length + (if ([] : List Keyword).isEmpty then 0 else 1) < 30)) = true := by rfl) (m3 : (apos.endLine == cpos.line) = true := by rfl) (m4 : backTo cpos (starEach [e, .List [] lp] X.env) = [(false, eval e X.env), (false, eval (.List [] lp) X.env)] := by rfl) :
    FE X C Wx (.Call (.Attribute o "setdefault" apos) [e, .List [] lp] [] cpos) (eSetL w f1 f2) := PE.imp (pe_dsetd ho he (pe_lst pa_nil) ⟨m1, m2, m3, m4⟩) fun σ H Q p => by
  refine rd.bind (f := f1) (g := fun s env h => if (dilS s h).isSome = true then (f2 env h).bind fun t h => setLAt w s t h else .bad) p fun ρ1 env h1 s x H1 S1 E1 r1 P1 => ?_
  split at P1
  · rename_i hs
    obtain ⟨p0, ek⟩ := Option.isSome_iff_exists.mp hs
    obtain ⟨n, a, bs0, rfl, rfl, _, _, hD0, _⟩ := dil_rel S1 r1 ek
    refine ⟨a, rfl, .inl ⟨_, .inl hD0⟩, rd.of (env := env) (h := h1) S1 E1 ?_⟩
    cases q : f2 env h1 with
    | bad => rw [q] at P1; exact P1
    | err y h2 => rw [q] at P1; exact P1
    | ok t h2 =>
      intro ρ2 y H2 x2 S2 r2
      refine ⟨Nat.zero_le _, fun b hb => ?_⟩
      rw [q, v_bind] at P1
      have P2 := Po.ex x2 P1
      unfold setLAt at P2
      split at P2
      · rename_i n' k en ekt
        cases en
        cases qo : dil? h2[n]? with
        | none => rw [qo] at P2; exact P2.elim
        | some p =>
          rw [qo] at P2
          dsimp only at P2
          obtain ⟨n2, a2, bs, en, ea, e1, e2, hD, hlt, hlen, hw⟩ := dil_rel (s := .loc n) S2 (SlV.ex x2 r1) qo
          cases en
          cases ea
          have ey := keyT_rel r2 ekt
          subst ey
          split at P2
          · rename_i hl
            have hab : a ≠ b := ne_of_none hD hb
            have hD3 : upd H2 b (.lst []) a = some (.dK (rfs bs p.2)) := by rw [upd_ne hab]; exact hD
            refine ⟨rfs bs p.2, k, hD3, rfl, by rw [sizeLine_eq]; simpa [rfs] using hl, fun v ev => ?_, fun ev => ?_⟩
            · rw [val_rfs] at ev
              cases ql : lookN p.2 k with
              | none => rw [ql] at ev; cases ev
              | some i =>
                rw [ql] at ev P2
                dsimp only at P2
                cases ev
                obtain ⟨r, mr, er⟩ := look_mem ql
                have hi : i < bs.length := er ▸ hlt r mr
                refine P2 ρ2 _ _ (Ex.laid S2 hb) (S2.laid hb) ⟨_, bs[i], e1, by simp [hi], ?_⟩
                show V.ref (bs.getD i 0) = _
                rw [List.getD_eq_getElem?_getD, List.getElem?_eq_getElem hi]
                rfl
            · rw [val_rfs] at ev
              cases ql : lookN p.2 k with
              | some i => rw [ql] at ev; cases ev
              | none =>
                rw [ql] at P2
                dsimp only at P2
                split at P2
                · rename_i hwn
                  rw [put_rfs ql]
                  have nb : b ∉ ρ2.flatten := fun z => by
                    obtain ⟨u, qq⟩ := S2.trk b z
                    rw [hb] at qq; cases qq
                  have nbb : b ∉ bs := fun z => nb (flat_at e1 (List.mem_cons_of_mem _ z))
                  have ndf := fp_nd S2 e1
                  have nab : a ∉ bs := (List.nodup_cons.mp ndf).1
                  have W := S2.chg (fq := [b]) (o' := .dil (p.1 ++ [[]]) (p.2 ++ [(k, p.1.length)])) (H' := upd (upd H2 b (.lst [])) a (.dK (rfs bs p.2 ++ [(k, V.ref b)]))) (.inr (by omega)) e1 e2 (flat_setN S2.nd e1 nb) (fun c m => by rw [List.mem_singleton.mp m]; exact hb)
                    (fun c h1 h2 => by
                      rw [upd_ne fun z => h1 (by rw [z]; exact List.mem_cons_self), upd_ne fun z => h2 (List.mem_singleton.mpr z)])
                    (fun c m => by
                      rcases List.mem_append.mp m with m | m
                      · rcases List.mem_cons.mp m with rfl | m
                        · exact ⟨_, upd_same⟩
                        · obtain ⟨u, qq⟩ := S2.trk c (flat_at e1 (List.mem_cons_of_mem _ m))
                          exact ⟨u, by rw [upd_ne fun z => nab (by rw [← z]; exact m), upd_ne fun z => nbb (by rw [← z]; exact m)]; exact qq⟩
                      · rw [List.mem_singleton.mp m]
                        exact ⟨.lst [], by rw [upd_ne (Ne.symm hab), upd_same]⟩)
                    (fun st => by
                      refine ⟨a, bs ++ [b], rfl, ?_, fun r m => ?_, by simp [hlen], fun i c ds g1 g2 => ?_⟩
                      · rw [upd_same]
                        show _ = some (HO.dK (rfs (bs ++ [b]) (p.2 ++ [(k, p.1.length)])))
                        have : rfs (bs ++ [b]) (p.2 ++ [(k, p.1.length)]) = rfs (bs ++ [b]) p.2 ++ [(k, V.ref b)] := by
                          unfold rfs
                          rw [List.map_append, List.map_cons, List.map_nil, List.getD_eq_getElem?_getD, ← hlen]
                          simp
                        rw [this, rfs_app hlt]
                      · rw [List.length_append, List.length_singleton]
                        rcases List.mem_append.mp m with m | m
                        · have := hlt r m
                          omega
                        · rw [List.mem_singleton.mp m, hlen]
                          exact Nat.lt_succ_self _
                      · by_cases hi : i < bs.length
                        · rw [List.getElem?_append_left hi] at g1
                          rw [List.getElem?_append_left (by omega)] at g2
                          obtain ⟨vs, h3, rr⟩ := hw i c ds g1 g2
                          have mc := List.mem_of_getElem? g1
                          exact ⟨vs, by rw [upd_ne fun z => nab (by rw [← z]; exact mc), upd_ne fun z => nbb (by rw [← z]; exact mc)]; exact h3, rr.stp st⟩
                        · have hi2 : i = bs.length := by
                            have := (List.getElem?_eq_some_iff.mp g1).1
                            simp at this
                            omega
                          subst hi2
                          rw [List.getElem?_append_right (Nat.le_refl _)] at g1
                          rw [hlen, List.getElem?_append_right (Nat.le_refl _)] at g2
                          simp at g1 g2
                          subst g1; subst g2
                          exact ⟨[], by rw [upd_ne (Ne.symm hab), upd_same], .nil⟩)
                  refine P2 _ _ _ W.2 W.1 ⟨(a :: bs) ++ [b], b, ?_, ?_, rfl⟩
                  · rw [List.getElem?_set, if_pos rfl, if_pos (List.getElem?_eq_some_iff.mp e1).1]
                  · rw [← hlen]
                    simp
                · exact P2.elim
          · exact P2.elim
      · exact P2.elim
  · exact P1.elim
theorem fe_popL {o e : Expr} {f1 f2 : Ev} {lp apos cpos : Pos} (ho : FE X C Wx o f1) (he : FE X C Wx e f2) (m1 : attributeBase o "pop" X.env (eval o X.env) = eval o X.env := by rfl) (m2 : ((backTo cpos (starEach [e, .List [] lp] X.env)).all (fun x => !x.1) && (backToKw cpos (keywordEach [] X.env)).all (fun x => x.1.isSome) && decide (([e, .List [] lp] : List Expr).length + ([] : List Keyword).length + (if ([] : List Keyword).isEmpty then 0 else 1) < 30)) = true := by rfl) (m3 : (apos.endLine == cpos.line) = true := by rfl) (m4 : backTo cpos (starEach [e, .List [] lp] X.env) = [(false, eval e X.env), (false, eval (.List [] lp) X.env)] := by rfl) :
    FE X C Wx (.Call (.Attribute o "pop" apos) [e, .List [] lp] [] cpos) (ePopL f1 f2) := PE.imp (pe_dpop2 ho he (pe_lst pa_nil) ⟨m1, m2, m3, m4⟩) fun σ H Q p => by
  refine rd.bind (f := f1) (g := fun s env h => if (dilS s h).isSome = true then (f2 env h).bind fun t h => popLAt s t h else .bad) p fun ρ1 env h1 s x H1 S1 E1 r1 P1 => ?_
  split at P1
  · rename_i hs
    obtain ⟨p0, ek⟩ := Option.isSome_iff_exists.mp hs
    obtain ⟨n, a, bs0, rfl, rfl, _, _, hD0, _⟩ := dil_rel S1 r1 ek
    refine ⟨a, rfl, .inl ⟨_, .inl hD0⟩, rd.of (env := env) (h := h1) S1 E1 ?_⟩
    cases q : f2 env h1 with
    | bad => rw [q] at P1; exact P1
    | err y h2 => rw [q] at P1; exact P1
    | ok t h2 =>
      intro ρ2 y H2 x2 S2 r2
      refine ⟨Nat.zero_le _, fun b hb => ?_⟩
      rw [q, v_bind] at P1
      have P2 := Po.ex x2 P1
      unfold popLAt at P2
      split at P2
      · rename_i n' k en ekt
        cases en
        cases qo : dil? h2[n]? with
        | none => rw [qo] at P2; exact P2.elim
        | some p =>
          rw [qo] at P2
          dsimp only at P2
          obtain ⟨n2, a2, bs, en, ea, e1, e2, hD, hlt, hlen, hw⟩ := dil_rel (s := .loc n) S2 (SlV.ex x2 r1) qo
          cases en
          cases ea
          have ey := keyT_rel r2 ekt
          subst ey
          have hab : a ≠ b := ne_of_none hD hb
          have hD3 : upd H2 b (.lst []) a = some (.dK (rfs bs p.2)) := by rw [upd_ne hab]; exact hD
          refine ⟨rfs bs p.2, k, hD3, rfl, fun v ev => ?_, fun ev => ?_⟩
          · rw [val_rfs] at ev
            cases ql : lookN p.2 k with
            | none => rw [ql] at ev; cases ev
            | some i =>
              rw [ql] at ev P2
              dsimp only at P2
              cases ev
              obtain ⟨r, mr, er⟩ := look_mem ql
              have hi : i < bs.length := er ▸ hlt r mr
              rw [drop_rfs]
              have S3 := S2.laid (o := .lst []) hb
              have ndf := fp_nd S2 e1
              have nab : a ∉ bs := (List.nodup_cons.mp ndf).1
              have W := S3.chg (fq := []) (o' := .dil p.1 (dropN p.2 k)) (H' := upd (upd H2 b (.lst [])) a (.dK (rfs bs (dropN p.2 k)))) (.inl rfl) e1 e2 (by rw [List.append_nil, set_self e1]; exact S2.nd) (fun c m => (nomatch m))
                (fun c h1 h2 => by rw [upd_ne fun z => h1 (by rw [z]; exact List.mem_cons_self)])
                (fun c m => by
                  rw [List.append_nil] at m
                  rcases List.mem_cons.mp m with rfl | m
                  · exact ⟨_, upd_same⟩
                  · obtain ⟨u, qq⟩ := S3.trk c (flat_at e1 (List.mem_cons_of_mem _ m))
                    exact ⟨u, by rw [upd_ne fun z => nab (by rw [← z]; exact m)]; exact qq⟩)
                (fun st => by
                  rw [List.append_nil]
                  rw [List.append_nil] at st
                  obtain ⟨a', bs', efp, hD', hlt', hlen', hw'⟩ := S3.obj n _ _ e1 e2
                  cases efp
                  refine ⟨a, bs, rfl, upd_same, fun r m => hlt r (List.mem_filter.mp m).1, hlen, fun i c ds g1 g2 => ?_⟩
                  obtain ⟨vs, h3, rr⟩ := hw' i c ds g1 g2
                  exact ⟨vs, by rw [upd_ne fun z => nab (by rw [← z]; exact List.mem_of_getElem? g1)]; exact h3, rr.stp st⟩)
              rw [List.append_nil, set_self e1] at W
              refine P2 ρ2 _ _ ((Ex.laid S2 hb).trans W.2) W.1 ⟨_, bs[i], e1, by simp [hi], ?_⟩
              show V.ref (bs.getD i 0) = _
              rw [List.getD_eq_getElem?_getD, List.getElem?_eq_getElem hi]
              rfl
          · rw [val_rfs] at ev
            cases ql : lookN p.2 k with
            | some i => rw [ql] at ev; cases ev
            | none =>
              rw [ql] at P2
              dsimp only at P2
              exact P2 ρ2 _ _ (Ex.laid S2 hb) (S2.laid hb) (Rp.newLst S2 hb .nil)
      · exact P2.elim
  · exact P1.elim
/-- d[..].append(x), the list being one of a dict of lists -/
def mAppD : GM := fun s ss h => match s, ss with
  | .inn n i, [.val d] => match dil? h[n]? with
    | some p => match p.1[i]? with
      | some ds => if ds.length < 16777216 then some (.none, h.set n (.dil (p.1.set i (ds ++ [d])) p.2)) else none
      | none => none
    | none => none
  | _, _ => none
theorem m_appD : MtR X "list.append" (rdM X.K C mAppD) := MtR.imp mt_append fun x xs H Q ⟨ρ, h, s, ss, d, h', S, r1, r2, e, k⟩ => by
  unfold mAppD at e
  split at e
  · rename_i n i d0
    split at e
    · rename_i p e3
      split at e
      · rename_i ds e4
        split at e
        · rename_i hl
          cases e
          have e3' := dil_some e3
          obtain ⟨fp, a, e1, e2, rfl⟩ := r1
          obtain ⟨y, rfl, ry⟩ := SlVs.one r2
          obtain ⟨D, bs, rfl, hD, hlt, hlen, hw⟩ := S.obj n fp _ e1 e3'
          have e2' : bs[i]? = some a := by simpa using e2
          obtain ⟨vs, qa, ra⟩ := hw i a ds e2' e4
          have ndf := fp_nd S e1
          have nab : D ∉ bs := (List.nodup_cons.mp ndf).1
          have ma := List.mem_of_getElem? e2'
          have W := S.chg (fq := []) (o' := .dil (p.1.set i (ds ++ [d0])) p.2) (H' := upd H a (.lst (vs ++ [y]))) (.inl rfl) e1 e3' (by rw [List.append_nil, set_self e1]; exact S.nd) (fun c m => (nomatch m))
            (fun c h1 h2 => by rw [upd_ne fun z => h1 (by rw [z]; exact List.mem_cons_of_mem _ ma)])
            (fun c m => by
              by_cases z : c = a
              · rw [z]; exact ⟨_, upd_same⟩
              · rw [List.append_nil] at m
                obtain ⟨u, qq⟩ := S.trk c (flat_at e1 m)
                exact ⟨u, by rw [upd_ne z]; exact qq⟩)
            (fun st => by
              rw [List.append_nil]
              rw [List.append_nil] at st
              refine ⟨D, bs, rfl, by rw [upd_ne fun z => nab (by rw [z]; exact ma)]; exact hD, hlt, by rw [List.length_set]; exact hlen, fun j c es g1 g2 => ?_⟩
              by_cases hj : i = j
              · subst hj
                rw [e2'] at g1
                cases g1
                rw [List.getElem?_set, if_pos rfl, if_pos (List.getElem?_eq_some_iff.mp e4).1] at g2
                cases g2
                exact ⟨_, upd_same, (ra.stp st).append (.cons (Rp.stp st ry) .nil)⟩
              · rw [List.getElem?_set_ne hj] at g2
                obtain ⟨ws, g3, g4⟩ := hw j c es g1 g2
                have : c ≠ a := fun z => by
                  subst z
                  have hbs := (List.nodup_cons.mp ndf).2
                  obtain ⟨l1, q1⟩ := List.getElem?_eq_some_iff.mp e2'
                  obtain ⟨l2, q2⟩ := List.getElem?_eq_some_iff.mp g1
                  exact hj ((List.getElem_inj hbs).mp (q1.trans q2.symm))
                exact ⟨ws, by rw [upd_ne this]; exact g3, g4.stp st⟩)
          rw [List.append_nil, set_self e1] at W
          exact ⟨a, vs, y, rfl, rfl, qa, by rw [ra.length, sizeLine_eq]; exact hl, k .non _ W.2 W.1 .non⟩
        · cases e
      · cases e
    · cases e
  · cases e
/-! ### {k: [(c, x)]} -/
def eDil1 (k c : Int) (i : Nat) : Ev := fun env h => match env[i]? with
  | some (some (.val (.int j))) => .ok (.loc h.length) (h ++ [.dil [[.tuple [.int c, .int j]]] [(.inl k, 0)]])
  | _ => .bad
theorem fe_dil1 {i : Nat} {n : Str} {k c : Int} {k1 k2 tk : Nat} {p1 p2 p3 p4 p5 pos : Pos}
    (hN : X.N[i]? = some n := by rfl) (hv : Vis X.env.scope n := by first | exact Or.inl rfl | exact Or.inr (Or.inl rfl) | exact Or.inr (Or.inr rfl)) (hd : (n == ("__debug__" : Str)) = false := by decide) (hcd : (n == ("__classdict__" : Str)) = false := by decide) :
    FE X C Wx (.Dict [some (.Constant (.int k) k1 p1)] [.List [.Tuple [.Constant (.int c) k2 p2, .Name n p3] tk p4] p5] pos) (eDil1 k c i) := by
  refine PE.imp (pe_disp (pps_cons pe_int (pe_lst (pa_cons (pe_tup (pa_cons pe_int (pa_cons (pe_var hN hv hd hcd) pa_nil))) pa_nil)) pps_nil) rfl rfl (by simp) (by simp)) fun σ H Q p => ?_
  obtain ⟨ρ, env, h, S, E, P⟩ := p
  unfold eDil1 at P
  split at P
  · rename_i j ek
    obtain ⟨v, e1, r⟩ := E.at_ i _ ek
    cases (show Rp X.K H (Mo C ρ) v (.int j) from r)
    intro q hq
    refine ⟨.int j, e1, ?_⟩
    refine ⟨by rw [sizeLine_eq]; simp, fun t ht => ⟨by rw [sizeLine_eq]; simp, fun b hb => ?_⟩⟩
    have htq : t ≠ q := fun z => by rw [z, upd_same] at ht; cases ht
    have ht0 : H t = none := by rw [upd_ne htq] at ht; exact ht
    have hbt : b ≠ t := fun z => by rw [z, upd_same] at hb; cases hb
    have hb1 : upd H q (.dK []) b = none := by rw [upd_ne hbt] at hb; exact hb
    have hbq : b ≠ q := fun z => by rw [z, upd_same] at hb1; cases hb1
    have hb0 : H b = none := by rw [upd_ne hbq] at hb1; exact hb1
    refine ⟨by rw [upd_ne (Ne.symm hbq), upd_ne (Ne.symm htq), upd_same], [(.inl k, .ref b)], rfl, by simp, ?_⟩
    have em : mergeK [] [((.inl k : Key), V.ref b)] = [(.inl k, .ref b)] := by simp [mergeK, putK]
    rw [em]
    have S1 := S.laid (o := .tup [.int c, .int j]) ht0
    have hq1 : upd H t (.tup [.int c, .int j]) q = none := by rw [upd_ne (Ne.symm htq)]; exact hq
    have S2 := S1.push (o := .dK []) (ob := .dil [] []) hq1 ⟨q, [], rfl, upd_same, (fun _ m => nomatch m), rfl, fun i b ds e _ => by simp at e⟩
    have e2 : (ρ ++ [[q]])[ρ.length]? = some [q] := by simp
    have e3 : (h ++ [.dil [] []])[ρ.length]? = some (.dil [] []) := by rw [S.len]; simp
    have hb2 : upd (upd H t (.tup [.int c, .int j])) q (.dK []) b = none := by rw [upd_ne hbq, upd_ne hbt]; exact hb0
    have hWl : C.W.length ≤ ρ.length := Nat.le_of_not_lt fun z => by
      have := S.pre ρ.length _ (List.getElem?_eq_getElem z)
      simp at this
    have nb : b ∉ (ρ ++ [[q]]).flatten := fun z => by
      obtain ⟨u, qq⟩ := S2.trk b z
      rw [hb2] at qq; cases qq
    have hH : ∀ c', c' ≠ q → c' ≠ b → upd (upd (upd (upd H q (.dK [])) t (.tup [.int c, .int j])) b (.lst [.ref t])) q (.dK [(.inl k, .ref b)]) c' = upd (upd H t (.tup [.int c, .int j])) q (.dK []) c' := fun c' h1 h2 => by
      rw [upd_ne h1, upd_ne h2, upd_ne h1]
      by_cases z : c' = t
      · rw [z, upd_same, upd_same]
      · rw [upd_ne z, upd_ne z, upd_ne h1]
    have W := S2.chg (fq := [b]) (o' := .dil [[.tuple [.int c, .int j]]] [(.inl k, 0)]) (H' := upd (upd (upd (upd H q (.dK [])) t (.tup [.int c, .int j])) b (.lst [.ref t])) q (.dK [(.inl k, .ref b)])) (.inr hWl) e2 e3 (flat_setN S2.nd e2 nb) (fun c m => by rw [List.mem_singleton.mp m]; exact hb2)
      (fun c h1 h2 => hH c (fun z => h1 (List.mem_singleton.mpr z)) fun z => h2 (List.mem_singleton.mpr z))
      (fun c m => by
        rcases List.mem_append.mp m with m | m
        · rw [List.mem_singleton.mp m]; exact ⟨_, upd_same⟩
        · rw [List.mem_singleton.mp m]; exact ⟨_, by rw [upd_ne hbq]; exact upd_same⟩)
      (fun st => by
        refine ⟨q, [b], rfl, upd_same, fun r m => by rw [List.mem_singleton.mp m]; exact Nat.zero_lt_one, rfl, fun i c' ds g1 g2 => ?_⟩
        cases i with
        | succ i => simp at g1
        | zero =>
          have g1' : b = c' := by simpa using g1
          have g2' : [PyData.tuple [.int c, .int j]] = ds := by simpa using g2
          subst g1'; subst g2'
          exact ⟨[.ref t], by rw [upd_ne hbq]; exact upd_same, .cons (((Rp.newTup S ht0 (.cons (.int c) (.cons (.int j) .nil))).stp (Stp.push hq1)).stp st) .nil⟩)
    have eh : (h ++ [Ob.dil [] []]).set ρ.length (.dil [[.tuple [.int c, .int j]]] [(.inl k, 0)]) = h ++ [.dil [[.tuple [.int c, .int j]]] [(.inl k, 0)]] := by rw [S.len]; simp
    rw [eh] at W
    refine P _ (.ref q) _ ((Ex.laid S ht0).trans ((Ex.push hq1).trans W.2)) W.1 ⟨[q] ++ [b], q, ?_, rfl, rfl⟩
    rw [← S.len, List.getElem?_set, if_pos rfl, if_pos (by simp)]
  · exact P.elim
end
/-! ### reckoning -/
section
variable {env : En} {h : Hs} {f1 f2 : Ev} {dss : List (List PyData)} {ks : List (Key × Nat)} {n i w : Nat} {k c j : Int}
@[simp] theorem v_dil1 : dil? (some (.dil dss ks)) = some (dss, ks) := id rfl
@[simp] theorem v_dilS : dilS (.loc n) h = dil? h[n]? := id rfl
def bang? {α : Type} (o : Option α) (r : Rz Sl) : Rz Sl := if o.isSome = true then r else .bad
@[simp] theorem v_bang {α : Type} {x : α} {r : Rz Sl} : bang? (some x) r = r := id rfl
@[simp] theorem v_eSetL : eSetL w f1 f2 env h = (f1 env h).bind fun s h => bang? (dilS s h) ((f2 env h).bind fun t h => setLAt w s t h) := id rfl
@[simp] theorem v_ePopL : ePopL f1 f2 env h = (f1 env h).bind fun s h => bang? (dilS s h) ((f2 env h).bind fun t h => popLAt s t h) := id rfl
theorem v_setOld (e : h[n]? = some (.dil dss ks)) (l : lookN ks (.inl k) = some i) (hl : ks.length < 16777216) : setLAt w (.loc n) (.val (.int k)) h = .ok (.inn n i) h := by
  unfold setLAt
  simp only [v_keyTi]
  rw [e, v_dil1]
  dsimp only
  rw [if_pos hl, l]
theorem v_setNew (e : h[n]? = some (.dil dss ks)) (l : lookN ks (.inl k) = none) (hl : ks.length < 16777216) (hw : w ≤ n) : setLAt w (.loc n) (.val (.int k)) h = .ok (.inn n dss.length) (h.set n (.dil (dss ++ [[]]) (ks ++ [(.inl k, dss.length)]))) := by
  unfold setLAt
  simp only [v_keyTi]
  rw [e, v_dil1]
  dsimp only
  rw [if_pos hl, l]
  dsimp only
  rw [if_pos hw]
theorem v_popOld (e : h[n]? = some (.dil dss ks)) (l : lookN ks (.inl k) = some i) : popLAt (.loc n) (.val (.int k)) h = .ok (.inn n i) (h.set n (.dil dss (dropN ks (.inl k)))) := by
  unfold popLAt
  simp only [v_keyTi]
  rw [e, v_dil1]
  dsimp only
  rw [l]
theorem v_popNone (e : h[n]? = some (.dil dss ks)) (l : lookN ks (.inl k) = none) : popLAt (.loc n) (.val (.int k)) h = .ok (.val (.list [])) h := by
  unfold popLAt
  simp only [v_keyTi]
  rw [e, v_dil1]
  dsimp only
  rw [l]
theorem v_neD (e : h[n]? = some (.dil dss ks)) : gNeD (.loc n) (.val (.dict [])) h = some (.bool (!ks.isEmpty)) := by
  unfold gNeD
  rw [v_dilS, e, v_dil1]
theorem v_appD {d : PyData} {ds : List PyData} (e : h[n]? = some (.dil dss ks)) (e2 : dss[i]? = some ds) (hl : ds.length < 16777216) : mAppD (.inn n i) [.val d] h = some (.none, h.set n (.dil (dss.set i (ds ++ [d])) ks)) := by
  unfold mAppD
  dsimp only
  rw [e, v_dil1]
  dsimp only
  rw [e2]
  dsimp only
  rw [if_pos hl]
theorem v_dilN (e : env[i]? = some (some (.val (.int j)))) : eDil1 k c i env h = .ok (.loc h.length) (h ++ [.dil [[.tuple [.int c, .int j]]] [(.inl k, 0)]]) := by
  unfold eDil1
  rw [e]
end
end FL

namespace FL
open PySem PySem.Spec PyProof.Rows L2
/-! ### l.remove(x) of data -/
def mRemove : GM := fun s ss h => match s, ss with
  | .loc n, [.val d] => match h[n]? with
    | some (.lst ds) => if (shp (.list ds) && shp d && (ds.any fun z => PyData.eqv z d)) = true then some (.none, h.set n (.lst (ds.eraseIdx (ds.findIdx fun z => PyData.eqv z d)))) else none
    | _ => none
  | _, _ => none
section
variable {X : Cx} {C : Fc}
theorem mt_removeD (hu : X.A.units + 65 < cLine) : MtR X "list.remove" fun x xs H Q => ∃ (a : Addr) (y : V) (d : PyData) (vs : List V) (ds : List PyData) (M : Ms) (j : Nat) (z : PyData), x = .ref a ∧ xs = [y] ∧ H a = some (.lst vs) ∧ RpAll X.K H M vs ds ∧ Rp X.K H M y d ∧ shp (.list ds) = true ∧ shp d = true ∧
    ds[j]? = some z ∧ PyData.eqv z d = true ∧ (∀ (m : Nat) (z' : PyData), m < j → ds[m]? = some z' → PyData.eqv z' d = false) ∧ Q .non (upd H a (.lst (vs.eraseIdx j))) := by
  intro pins s σ H x xs v us Q I rx rxs h
  obtain ⟨a, y, d, vs, ds, M, j, z, rfl, rfl, hH, ra, ry0, sl, sd, hz, hzj, hno, q⟩ := h
  cases rx
  obtain ⟨uy, rfl, ry⟩ := rxs.one
  obtain ⟨bs, r1⟩ := Dp.reads I d y uy (Rp.dp d _ (shp_nd sd) ry0) ry
  have hxs : PyData.canLayAll0 ds = true := SeqAt.canLay_of_shaped sl
  have hroom : X.A.units + 1 + min (PyData.depthAll ds) d.depth < cLine := room_in_shaped sd hu
  obtain ⟨zl, its, n, rv, hvl, ho⟩ := I.lstM hH
  have hd := shp_nd sl
  obtain ⟨as, h4⟩ := Dp.readsAll I ds _ its (ra.dp ds _ (by simpa only [PyData.hasDict] using hd)) rv
  have hn : its.length = ds.length := SeqAt.ReadsAll.length ds its as h4
  have hmap : its.map (SeqAt.readOf s.heap) = ds := SeqAt.readsAll_map ds its as hxs h4
  obtain ⟨hjd, _⟩ := List.getElem?_eq_some_iff.mp hz
  have hjl : j < its.length := by omega
  have hj : j < its.toArray.size := by simpa using hjl
  have at_ : ∀ (m : Nat) (hm : m < its.toArray.size) (z' : PyData), ds[m]? = some z' → SeqAt.readOf s.heap its.toArray[m] = z' := by
    intro m hm z' hz'
    have hml : m < its.length := by simpa using hm
    rw [← hmap, List.getElem?_map, List.getElem?_eq_getElem hml] at hz'
    have e1 : SeqAt.readOf s.heap its[m] = z' := Option.some.inj (show some (SeqAt.readOf s.heap its[m]) = some z' from hz')
    simpa using e1
  have hsl := sizeLine_eq
  refine call_meets PySem.F.slot_list_remove ⟨_, ho, rfl⟩ PySem.F.entry_list_remove (PySem.F.args_list_remove_2 _ _)
    (SeqAt.list_removeAt a its.toArray n none #[] uy (fun u => PyData.eqv (SeqAt.readOf s.heap u) d) j hj ?_ ?_ (by rw [List.size_toArray]; omega)) ⟨ho, SeqAt.items_eqAt (vs := its.toArray) (show ReadsAll s.heap its.toArray.toList ds as from h4) r1 hxs (SeqAt.canLay_of_shaped sd) hroom, ?_⟩
  · show PyData.eqv (SeqAt.readOf s.heap its.toArray[j]) d = true
    rw [at_ j hj z hz]
    exact hzj
  · intro m hm hmj
    have hmd : m < ds.length := by omega
    have hz' : ds[m]? = some ds[m] := List.getElem?_eq_getElem hmd
    show PyData.eqv (SeqAt.readOf s.heap its.toArray[m]) d = false
    rw [at_ m hm _ hz']
    exact hno m _ hmj hz'
  · have rr := rv.eraseIdx j
    refine ⟨.non, _, I.lset (its' := its.eraseIdx j) (t' := s.toks) hH ho ?_ rr ?_, rfl, q⟩
    · show its.toArray.eraseIdxIfInBounds j = (its.eraseIdx j).toArray
      rw [List.eraseIdxIfInBounds_toArray]
    · have z2 := len_erase vs j
      omega
theorem m_remove (hu : X.A.units + 65 < cLine) : MtR X "list.remove" (rdM X.K C mRemove) := MtR.imp (mt_removeD hu) fun x xs H Q ⟨ρ, h, s, ss, d, h', S, r1, r2, e, k⟩ => by
  unfold mRemove at e
  split at e
  · rename_i n d0
    split at e
    · rename_i ds e3
      split at e
      · rename_i c
        rw [Bool.and_eq_true, Bool.and_eq_true] at c
        obtain ⟨⟨c1, c2⟩, c3⟩ := c
        cases e
        obtain ⟨fp, a, e1, e2, rfl⟩ := r1
        obtain ⟨y, rfl, ry⟩ := SlVs.one r2
        obtain ⟨e1', vs, q1, ra⟩ := S.lst e1 e2 e3
        obtain ⟨z, hz, ez⟩ := List.any_eq_true.mp c3
        have hlt : ds.findIdx (fun z => PyData.eqv z d0) < ds.length := List.findIdx_lt_length_of_exists ⟨z, hz, ez⟩
        have st : Stp (Mo C ρ) H (Mo C ρ) (upd H a (.lst (vs.eraseIdx (ds.findIdx fun z => PyData.eqv z d0)))) := ⟨keepE fun b u z nm => by
          have : b ≠ a := fun w => nm (w ▸ .inl (flat_at e1' (by simp)))
          rw [upd_ne this]; exact z, fun _ mm => .inl mm⟩
        have W := S.write (ob := .lst (ds.eraseIdx (ds.findIdx fun z => PyData.eqv z d0))) (o := .lst (vs.eraseIdx (ds.findIdx fun z => PyData.eqv z d0))) e1' ⟨a, _, rfl, upd_same, (ra.stp st).eraseIdx _⟩
        refine ⟨a, y, d0, vs, ds, _, ds.findIdx (fun z => PyData.eqv z d0), ds[ds.findIdx (fun z => PyData.eqv z d0)], rfl, rfl, q1, ra, ry, c1, c2, List.getElem?_eq_getElem hlt, List.findIdx_getElem (w := hlt), fun m z' hm hz' => ?_, k .non _ W.2 W.1 .non⟩
        have hm' : m < ds.length := by omega
        rw [List.getElem?_eq_getElem hm'] at hz'
        cases hz'
        have := List.not_of_lt_findIdx hm
        simpa using this
      · cases e
    · cases e
  · cases e
end
theorem v_remove {n : Nat} {h : Hs} {ds : List PyData} {d : PyData} (e : h[n]? = some (.lst ds)) (c1 : shp (.list ds) = true) (c2 : shp d = true) (c3 : (ds.any fun z => PyData.eqv z d) = true) : mRemove (.loc n) [.val d] h = some (.none, h.set n (.lst (ds.eraseIdx (ds.findIdx fun z => PyData.eqv z d)))) := by
  unfold mRemove
  dsimp only
  rw [e]
  dsimp only
  rw [c1, c2, c3]
  rfl
end FL

namespace FL
open PySem PySem.Spec PyProof.Rows L2
/-! ### .. over an inner list -/
def compJ (t : Tg) (tt : Tv) (fe : Ev) (env : En) (n j : Nat) : Nat → Nat → List PyData → Hs → Rz (List PyData)
  | 0, _, _, _ => .bad
  | k + 1, i, acc, h => match inn? h n j with
    | none => .bad
    | some ds => match ds[i]? with
      | none => .ok acc h
      | some d => match t.put d env with
        | none => .bad
        | some e1 => match tt e1 h with
          | .ok true h => match fe e1 h with
            | .ok (.val x) h => if acc.length < 16777216 then compJ t tt fe env n j k (i + 1) (acc ++ [x]) h else .bad
            | _ => .bad
          | .ok false h => compJ t tt fe env n j k (i + 1) acc h
          | _ => .bad
def compSI (t : Tg) (tt : Tv) (fe : Ev) (env : En) (s : Sl) (h : Hs) : Rz (List PyData) := match s with
  | .inn n j => compJ t tt fe env n j 16777217 0 [] h
  | _ => .bad
def eCompI (fi : Ev) (t : Tg) (vs : List Nat) (tt : Tv) (fe : Ev) : Ev := fun env h => (fi env h).bind fun s h => (compSI t tt fe (wipeE env vs) s h).bind fun out h => .ok (.val (.list out)) h
theorem lc_readI {K : PySem.W.Frag} {mg : Str → Option Value} {C : Fc} {Wx : WX} {fi : Ev} {t : Tg} {vs : List Nat} {tt : Tv} {fe : Ev} {σ : St} {H : Hp} {Q : VK} {g : List PyData → Hs → Rz Sl}
    (hsl : ∀ i ∈ t.slots, i ∈ vs) {rt : TT} {re : TE} (ht : ∀ C', C'.T = C.T → ∀ σ H Q, rd K mg C' W0 relT tt σ H Q → rt σ H Q) (he : ∀ C', C'.T = C.T → ∀ σ H Q, rd K mg C' W0 (relE K C') fe σ H Q → re σ H Q)
    (fin : ∀ (D : Addr) (ρ1 ρ : Fps) (H1 H : Hp) (env : En) (acc : List PyData) (h : Hs) (av : List V) (σ' : St) h1, SimH K C ρ1 h1 H1 → H1 D = none → Mid K C D ρ1 H1 env σ' acc ρ h H av → Po K mg C Wx σ ρ1 H1 (relE K C) (g acc h) Q → Q (.ref D) H)
    (p : rd K mg C Wx (relE K C) (fun env h => (fi env h).bind fun s h => (compSI t tt fe (wipeE env vs) s h).bind g) σ H Q) : tLc (iList K (rd K mg C Wx (relE K C) fi)) (t.rd K) rt re vs σ H Q := by
  refine rd.bind (f := fi) (g := fun s env h => (compSI t tt fe (wipeE env vs) s h).bind g) p fun ρ1 env1 h1 s x0 H1 S1 E1 r1 P1 => ?_
  cases s with
  | val d => exact P1.elim
  | loc n => exact P1.elim
  | exn x => exact P1.elim
  | inn n j =>
  obtain ⟨fp, a, e1, e2, rfl⟩ := r1
  have P1' : Po K mg C Wx σ ρ1 H1 (relE K C) ((compJ t tt fe (wipeE env1 vs) n j 16777217 0 [] h1).bind g) Q := P1
  obtain ⟨ds0, ed0⟩ : ∃ ds, inn? h1 n j = some ds := by
    have P2 := P1'
    unfold compJ at P2
    cases q : inn? h1 n j with
    | none => rw [q] at P2; exact P2.elim
    | some ds => exact ⟨ds, rfl⟩
  obtain ⟨vs0, q0, _⟩ := S1.inn e1 e2 ed0
  refine ⟨a, rfl, ⟨vs0, .inl (.inl q0)⟩, ?_⟩
  intro D hD
  have M0 : Mid K C D ρ1 H1 (wipeE env1 vs) (wipe σ vs) [] ρ1 h1 (upd H1 D (.lst [])) [] := by
    refine ⟨S1.plus hD, ⟨(E1.wiped vs).len, fun i s e => ?_⟩, Stp.plus hD, fun n fp e => ⟨fp, e, pfx_rfl⟩, upd_same, .nil⟩
    obtain ⟨v, e1, r⟩ := (E1.wiped vs).at_ i s e
    refine ⟨v, e1, ?_⟩
    cases s with
    | val d => exact Rp.stp (Stp.plus hD) r
    | loc n => exact r
    | inn n i => exact r
    | exn x => exact r
  refine ⟨fun i m H2 => ∃ ρ2 h2 acc av, Mid K C D ρ1 H1 (wipeE env1 vs) (wipe σ vs) acc ρ2 h2 H2 av ∧ Po K mg C Wx σ ρ1 H1 (relE K C) ((compJ t tt fe (wipeE env1 vs) n j m i acc h2).bind g) Q,
    ⟨16777217, ρ1, h1, [], [], M0, P1'⟩, fun i m H2 hW => ?_⟩
  obtain ⟨ρ2, h2, acc, av, M, P2⟩ := hW
  cases m with
  | zero => exact P2.elim
  | succ k =>
  unfold compJ at P2
  cases qo : inn? h2 n j with
  | none => rw [qo] at P2; exact P2.elim
  | some ds =>
  rw [qo] at P2
  dsimp only at P2
  obtain ⟨fp2, ef2, pf2⟩ := M.root n _ e1
  obtain ⟨vs2, q2, ra2⟩ := M.S.inn ef2 (pfx_get pf2 e2) qo
  have sq2 : SqL K H2 a vs2 := .inl (.inl q2)
  cases hi : ds[i]? with
  | none =>
    rw [hi] at P2
    have hl : ds.length ≤ i := List.getElem?_eq_none_iff.mp hi
    exact .inl ⟨⟨vs2, sq2, by rw [ra2.length]; exact hl⟩, fin D ρ1 ρ2 H1 H2 _ acc h2 av _ h1 S1 hD M P2⟩
  | some d =>
    rw [hi] at P2
    dsimp only at P2
    obtain ⟨v, ev, rv⟩ := ra2.get hi
    refine .inr ⟨⟨vs2, v, sq2, ev⟩, fun H' => ∃ ρ3 h3 acc av, Mid K C D ρ1 H1 (wipeE env1 vs) (wipe σ vs) acc ρ3 h3 H' av ∧ Po K mg C Wx σ ρ1 H1 (relE K C) ((compJ t tt fe (wipeE env1 vs) n j k (i + 1) acc h3).bind g) Q, fun H' hN => ⟨k, by omega, hN⟩, fun x H' y => ?_⟩
    obtain ⟨rfl, hy⟩ := y
    have ex := hy vs2 sq2
    rw [ev] at ex
    cases ex
    have P3 : Po K mg C Wx σ ρ1 H1 (relE K C) ((match t.put d (wipeE env1 vs) with
        | none => .bad
        | some e1 => match tt e1 h2 with
          | .ok true h => match fe e1 h with
            | .ok (.val x) h => if acc.length < 16777216 then compJ t tt fe (wipeE env1 vs) n j k (i + 1) (acc ++ [x]) h else .bad
            | _ => .bad
          | .ok false h => compJ t tt fe (wipeE env1 vs) n j k (i + 1) acc h
          | _ => .bad : Rz (List PyData)).bind g) Q := P2
    cases q : t.put d (wipeE env1 vs) with
    | none => rw [q] at P3; exact P3.elim
    | some e1 =>
      rw [q] at P3
      dsimp only at P3
      refine Tg.ok t v d (wipe σ vs) (wipeE env1 vs) e1 _ rv q fun σ3 pt => ⟨by rw [pt.wipe vs hsl, wipe_wipe], ?_⟩
      have E3 : EnvOk K (C.plus D) ρ2 H' e1 σ3 := pt.env (C.plus D) ρ2 rfl M.E
      refine ht ((C.plus D).sub ρ2 H') rfl σ3 H' _ (rd.of M.S.sub (EnvOk.cong (C := C.plus D) (C' := (C.plus D).sub ρ2 H') rfl rfl E3) ?_)
      cases z : tt e1 h2 with
      | bad => rw [z] at P3; exact P3.elim
      | err _ _ => rw [z] at P3; exact P3.elim
      | ok b h4 =>
        rw [z] at P3
        intro ρ4 b' H4 x4 S4 eb
        have eb' : b' = b := eb
        subst eb'
        have M4 := M.step S4 x4
        have x4' : Ex (C.plus D) ρ2 H' ρ4 H4 := Ex.cong (C := (C.plus D).sub ρ2 H') (C' := C.plus D) rfl x4
        cases b' with
        | false =>
          rw [if_neg Bool.false_ne_true]
          exact ⟨ρ4, h4, acc, av, M4, P3⟩
        | true =>
          rw [if_pos rfl]
          dsimp only at P3
          refine he ((C.plus D).sub ρ4 H4) rfl σ3 H4 _ (rd.of M4.S.sub (EnvOk.cong (C := C.plus D) (C' := (C.plus D).sub ρ4 H4) rfl rfl (E3.ex x4')) ?_)
          cases w : fe e1 h4 with
          | bad => rw [w] at P3; exact P3.elim
          | err _ _ => rw [w] at P3; exact P3.elim
          | ok s5 h5 =>
            rw [w] at P3
            cases s5 with
            | loc n => exact P3.elim
            | inn n i => exact P3.elim
            | exn x => exact P3.elim
            | val x5 =>
              intro ρ5 y5 H5 x5' S5 r5
              have M5 := M4.step S5 x5'
              have P4 : Po K mg C Wx σ ρ1 H1 (relE K C) ((if acc.length < 16777216 then compJ t tt fe (wipeE env1 vs) n j k (i + 1) (acc ++ [x5]) h5 else .bad : Rz (List PyData)).bind g) Q := P3
              split at P4
              · rename_i hl
                have bD : (C.plus D).Bar D := .inr rfl
                have n0 : (C.plus D).H0 D = none := by
                  cases q0 : C.H0 D with
                  | none => exact q0
                  | some o =>
                    by_cases hw : D ∈ C.W.flatten
                    · obtain ⟨o', e'⟩ := S1.wtr D hw
                      rw [hD] at e'; cases e'
                    · obtain ⟨o', e', _⟩ := S1.frK D o q0 hw
                      rw [hD] at e'; cases e'
                have r5' : Rp K H5 (Mo (C.plus D) ρ5) y5 x5 := r5
                have sp := Stp.poke (C := C.plus D) (ρ := ρ5) (H := H5) (o := .lst (av ++ [y5])) bD
                refine ⟨av, M5.at_, by rw [M5.all.length, sizeLine_eq]; exact hl, ρ5, h5, acc ++ [x5], av ++ [y5], ⟨M5.S.poke bD n0 M5.at_ nte_lst, ?_, M5.st.trans sp, M5.root, upd_same, (M5.all.stp sp).append (.cons (Rp.stp sp r5') .nil)⟩, P4⟩
                exact M5.E.ex ⟨sp, fun n fp e => ⟨fp, e, pfx_rfl⟩⟩
              · exact P4.elim
section
variable {X : Cx} {C : Fc} {Wx : WX} {elt tg iter : Expr} {ifs : List Expr} {scope : Scope} {own : List (Str × Nat)} {pos : Pos} {fi : Ev} {t : Tg} {tt : Tv} {fe : Ev}
theorem fe_compI (hc : X.calm = true) (hN : X.N.Nodup) (hi : FE X C Wx iter fi) (ok : BlkOk X.N X.env.scope scope own)
    (hg : ∀ (s : Shared) (H : Hp) (Cc : Addr) (cl : List (Str × Addr)) (fp : List Addr), FG (X.blk s H scope (compEnvC scope cl Cc X.env) fp) tg t)
    (ht : ∀ (C' : Fc) (_ : C'.T = C.T) (s : Shared) (H : Hp) (Cc : Addr) (cl : List (Str × Addr)) (fp : List Addr), FTs (X.blk s H scope (compEnvC scope cl Cc X.env) fp) C' W0 ifs tt)
    (he : ∀ (C' : Fc) (_ : C'.T = C.T) (s : Shared) (H : Hp) (Cc : Addr) (cl : List (Str × Addr)) (fp : List Addr), FE (X.blk s H scope (compEnvC scope cl Cc X.env) fp) C' W0 elt fe)
    (hsl : ∀ i ∈ t.slots, i ∈ own.map (·.2) := by decide) (hs : ∀ x, foldedSetIterable iter X.env x = pure x := by intro _; rfl) :
    FE X C Wx (.ListComp elt [⟨tg, iter, ifs, 0⟩] scope pos) (eCompI fi t (own.map (·.2)) tt fe) :=
  PE.imp (pe_lc (tt := fun σ H Q => ∃ C', C'.T = C.T ∧ rd X.K X.mg C' W0 relT tt σ H Q) (te := fun σ H Q => ∃ C', C'.T = C.T ∧ rd X.K X.mg C' W0 (relE X.K C') fe σ H Q) hc hN (pi_list hi) ok hg
    (fun s H Cc cl fp => ⟨fun pins s' σ H Q I ⟨C', z, q⟩ => (ht C' z s _ Cc cl fp).run pins s' σ H Q I q⟩) (fun s H Cc cl fp => ⟨fun pins s' σ H Q I ⟨C', z, q⟩ => (he C' z s _ Cc cl fp).run pins s' σ H Q I q⟩) hs) fun σ H Q p =>
    lc_readI (g := fun out h => .ok (.val (.list out)) h) hsl (fun C' z _ _ _ q => ⟨C', z, q⟩) (fun C' z _ _ _ q => ⟨C', z, q⟩) lc_val p
end
/-! ### reckoning -/
section
variable {env : En} {h : Hs} {fi : Ev} {t : Tg} {vs : List Nat} {tt : Tv} {fe : Ev}
@[simp] theorem v_compIv : eCompI fi t vs tt fe env h = (fi env h).bind fun s h => (compSI t tt fe (wipeE env vs) s h).bind fun out h => .ok (.val (.list out)) h := id rfl
theorem v_compSI {n j : Nat} : compSI t tt fe env (.inn n j) h = compJ t tt fe env n j 16777217 0 [] h := id rfl
/-- nothing is changed meanwhile -/
theorem compJ_map {α : Type} {E : α → En} {dd w : α → PyData} {P : α → Bool} {n j : Nat} {xs : List α} (hp : ∀ z ∈ xs, t.put (dd z) env = some (E z)) (hc : ∀ z ∈ xs, tt (E z) h = .ok (P z) h) (hf : ∀ z ∈ xs, P z = true → fe (E z) h = .ok (.val (w z)) h) (eh : inn? h n j = some (xs.map dd)) :
    ∀ (k i : Nat) (acc : List PyData), i + k = xs.length → acc.length + k ≤ 16777216 → ∀ m, k < m → compJ t tt fe env n j m i acc h = .ok (acc ++ ((xs.drop i).filter P).map w) h
  | 0, i, acc, hk, hl, m + 1, hm => by
    have : xs.drop i = [] := List.drop_eq_nil_of_le (by omega)
    rw [this]
    unfold compJ
    rw [eh]
    dsimp only
    rw [List.getElem?_eq_none (by rw [List.length_map]; omega)]
    simp
  | k + 1, i, acc, hk, hl, m + 1, hm => by
    unfold compJ
    rw [eh]
    dsimp only
    have hi : i < xs.length := by omega
    rw [List.getElem?_map, List.getElem?_eq_getElem hi]
    have ed : xs.drop i = xs[i] :: xs.drop (i + 1) := List.drop_eq_getElem_cons hi
    have mi : xs[i] ∈ xs := List.getElem_mem hi
    show (match t.put (dd xs[i]) env with
      | none => .bad
      | some e1 => match tt e1 h with
        | .ok true h => match fe e1 h with
          | .ok (.val x) h => if acc.length < 16777216 then compJ t tt fe env n j m (i + 1) (acc ++ [x]) h else .bad
          | _ => .bad
        | .ok false h => compJ t tt fe env n j m (i + 1) acc h
        | _ => .bad : Rz (List PyData)) = _
    rw [hp _ mi]
    dsimp only
    rw [hc _ mi, ed]
    cases q : P xs[i] with
    | true =>
      dsimp only
      rw [hf _ mi q]
      dsimp only
      rw [if_pos (by omega), compJ_map hp hc hf eh k (i + 1) _ (by omega) (by rw [List.length_append, List.length_singleton]; omega) m (by omega), List.filter_cons, if_pos q, List.map_cons, List.append_assoc]
      rfl
    | false =>
      dsimp only
      rw [compJ_map hp hc hf eh k (i + 1) _ (by omega) (by omega) m (by omega), List.filter_cons, if_neg (by rw [q]; exact Bool.false_ne_true)]
theorem compSI_map {α : Type} {E : α → En} {dd w : α → PyData} {P : α → Bool} {n j : Nat} {xs : List α} (hp : ∀ z ∈ xs, t.put (dd z) env = some (E z)) (hc : ∀ z ∈ xs, tt (E z) h = .ok (P z) h) (hf : ∀ z ∈ xs, P z = true → fe (E z) h = .ok (.val (w z)) h) (eh : inn? h n j = some (xs.map dd)) (hl : xs.length ≤ 16777216) :
    compSI t tt fe env (.inn n j) h = .ok ((xs.filter P).map w) h := by
  rw [v_compSI, compJ_map hp hc hf eh xs.length 0 [] (by omega) (by simp; omega) 16777217 (by omega)]
  simp
end
end FL

namespace FL
open PySem PySem.Spec PyProof.Rows L2 PySem.W
/-! ### small rows of data -/
theorem lay_by {k : Nat} : ∀ {ds : List PyData}, (∀ d ∈ ds, d.canLay0 = true ∧ d.depth ≤ k) → PyData.canLayAll0 ds = true ∧ PyData.depthAll ds ≤ k
  | [], _ => by simp [PyData.canLayAll0, PyData.depthAll]
  | d :: ds, h => by
    obtain ⟨a, b⟩ := lay_by fun x m => h x (List.mem_cons_of_mem d m)
    obtain ⟨c, e⟩ := h d List.mem_cons_self
    simp [PyData.canLayAll0, PyData.depthAll, a, c]
    omega
theorem shp_listB {k : Nat} {ds : List PyData} (h : ∀ d ∈ ds, d.canLay0 = true ∧ d.depth ≤ k) (hk : k ≤ 60) : shp (.list ds) = true := by
  obtain ⟨a, b⟩ := lay_by h
  unfold shp SeqAt.shaped
  simp [PyData.canLay0, PyData.depth, a]
  omega
theorem shp_tupB {k : Nat} {ds : List PyData} (h : ∀ d ∈ ds, d.canLay0 = true ∧ d.depth ≤ k) (hk : k ≤ 60) : shp (.tuple ds) = true := by
  obtain ⟨a, b⟩ := lay_by h
  unfold shp SeqAt.shaped
  simp [PyData.canLay0, PyData.depth, a]
  omega
theorem shp_nil : shp (.list []) = true := by decide +kernel
theorem v_eqNv {ds : List PyData} {h : Hs} (hs : shp (.list ds) = true) : gEq (.val (.list ds)) (.val (.list [])) h = some (.bool ds.isEmpty) := by
  show (if eqOk (.list ds) (.list []) then some (PyData.bool (PyData.eqv (.list ds) (.list []))) else none) = _
  have e : eqOk (.list ds) (.list []) = true := by
    show (shp _ && shp _) = _
    rw [hs, shp_nil]
    rfl
  rw [if_pos e]
  cases ds <;> simp [PyData.eqv, PyData.eqvAll]
theorem v_eqNi {ds : List PyData} {n i : Nat} {h : Hs} (e : inn? h n i = some ds) (hs : shp (.list ds) = true) : gEq (.inn n i) (.val (.list [])) h = some (.bool ds.isEmpty) := by
  rw [← v_eqNv (h := h) hs]
  unfold gEq
  simp only [dat]
  rw [e]
  rfl
@[simp] theorem v_itI {n i : Nat} {h : Hs} : items (.inn n i) h = inn? h n i := id rfl
@[simp] theorem v_liI {n i : Nat} {h : Hs} : litems (.inn n i) h = inn? h n i := id rfl
theorem v_inn0 {n i : Nat} {h : Hs} {dss : List (List PyData)} (e : h[n]? = some (.lls dss)) : inn? h n i = dss[i]? := by unfold inn?; rw [e]
theorem v_inn1 {n i : Nat} {h : Hs} {dss : List (List PyData)} {ks : List (Key × Nat)} (e : h[n]? = some (.dil dss ks)) : inn? h n i = dss[i]? := by unfold inn?; rw [e]
def ixI? (o : Option Sl) (h : Hs) : Rz Sl := match o with
  | some u => .ok u h
  | none => .bad
@[simp] theorem v_ixIs {s : Sl} {h : Hs} : ixI? (some s) h = .ok s h := id rfl
@[simp] theorem v_eIxI {f g : Ev} {env : En} {h : Hs} : eIxI f g env h = (f env h).bind fun s h => (g env h).bind fun t h => ixI? (innAt s t h) h := by unfold eIxI ixI?; rfl
theorem v_innAt {k p : Nat} {h : Hs} {dss : List (List PyData)} (e : h[k]? = some (.lls dss)) (hp : p < dss.length) : innAt (.loc k) (.val (.int (p : Nat))) h = some (.inn k p) := by
  unfold innAt
  dsimp only
  rw [e]
  dsimp only
  rw [ixN_nat hp]
  rfl
theorem v_appI {n i : Nat} {h : Hs} {d : PyData} {ds : List PyData} {dss : List (List PyData)} (e : h[n]? = some (.lls dss)) (e2 : dss[i]? = some ds) (hl : ds.length < 16777216) : mAppI (.inn n i) [.val d] h = some (.none, h.set n (.lls (dss.set i (ds ++ [d])))) := by
  unfold mAppI
  dsimp only
  rw [e]
  dsimp only
  rw [e2]
  dsimp only
  rw [if_pos hl]
theorem v_appO {n : Nat} {h : Hs} {d : PyData} {ds : List PyData} (e : h[n]? = some (.lst ds)) (hl : ds.length < 16777216) : mAppend (.loc n) [.val d] h = some (.none, h.set n (.lst (ds ++ [d]))) := by
  unfold mAppend
  dsimp only
  rw [e]
  dsimp only
  rw [if_pos hl]
theorem v_expMt {m : GM} {f : Ev} {a : Av} {env : En} {h h' : Hs} {s : Sl} {ss : List Sl} {ds : List PyData} {d : PyData} (e1 : f env h = .ok s h) (e2 : litems s h = some ds) (e3 : a env h = .ok ss h) (e4 : m s ss h = some (d, h')) : sExp (eMt m f a) env h = .next env h' := by
  simp only [v_exp, v_mt, e1, v_bind, e2, e3, e4, Option.isSome_some, if_true, v_fl]
/-- .. where what is called for changes the heap -/
theorem v_expMt2 {m : GM} {f : Ev} {a : Av} {env : En} {h h1 h' : Hs} {s : Sl} {ss : List Sl} {ds : List PyData} {d : PyData} (e1 : f env h = .ok s h1) (e2 : litems s h1 = some ds) (e3 : a env h1 = .ok ss h1) (e4 : m s ss h1 = some (d, h')) : sExp (eMt m f a) env h = .next env h' := by
  simp only [v_exp, v_mt, e1, v_bind, e2, e3, e4, Option.isSome_some, if_true, v_fl]
theorem v_compE {src : En → Hs → Rz (List PyData)} {env : En} {h h1 : Hs} {ds : List PyData} (e : src env h = .ok ds h1) (hl : ds.length ≤ 16777216) : eCompE src env h = .ok (.loc h1.length) (h1 ++ [.lls (List.replicate ds.length [])]) := by
  unfold eCompE
  rw [e, v_bind, if_pos hl]
/-! ### rows of lists by places -/
def rowsL (n : Nat) (f : Nat → List PyData) : List (List PyData) := (List.range n).map f
theorem rowsL_len {n : Nat} {f : Nat → List PyData} : (rowsL n f).length = n := by simp [rowsL]
theorem rowsL_get {n p : Nat} {f : Nat → List PyData} (h : p < n) : (rowsL n f)[p]? = some (f p) := by
  unfold rowsL
  rw [List.getElem?_map, List.getElem?_range h]
  rfl
theorem rowsL_set {n p : Nat} {f : Nat → List PyData} {v : List PyData} (h : p < n) : (rowsL n f).set p v = rowsL n fun q => if q = p then v else f q := by
  apply List.ext_getElem?
  intro q
  rw [List.getElem?_set, rowsL_len]
  by_cases e : p = q
  · subst e
    rw [if_pos rfl, if_pos h, rowsL_get h, if_pos rfl]
  · rw [if_neg e]
    by_cases q2 : q < n
    · rw [rowsL_get q2, rowsL_get q2, if_neg (fun z => e z.symm)]
    · rw [List.getElem?_eq_none (by rw [rowsL_len]; omega), List.getElem?_eq_none (by rw [rowsL_len]; omega)]
theorem rowsL_rep {n : Nat} : List.replicate n ([] : List PyData) = rowsL n fun _ => [] := by
  apply List.ext_getElem?
  intro q
  by_cases h : q < n
  · rw [rowsL_get h, List.getElem?_replicate, if_pos h]
  · rw [List.getElem?_eq_none (by simp; omega), List.getElem?_eq_none (by rw [rowsL_len]; omega)]
end FL

namespace FL
open PySem PySem.Spec PyProof.Rows L2
def b_is_among : Sv := (sRet (eAnd (cUn (gIsa "int") (eVar 0)) (eAnd (eNot (cUn (gIsa "bool") (eVar 0))) (eChain (gI fLe) (gI fLe) (eVar 1) (eVar 0) (eVar 2)))))
def m_is_among : Fm := runFn false [false, false, false] 0 b_is_among
def b_is_road : Sv := (sSeq (sIf (tOr_ (tNo (tV (cUn (gIsa "tuple") (eVar 0)))) (tOr_ (tV (cBin gNe (cCB gLen (aCons (eVar 0) aNil)) (eK (.int 4)))) (tNo (tV (cCB gAll (aCons (eComp (srcSeq (eSl (eVar 0) oNone (oSome (eK (.int 2))))) (.nm 6) [6] tTrue (eCall m_is_among [false, false, false] false (aCons (eVar 6) (aCons (eK (.int 0)) (aCons (cBin (gI fSub) (eVar 1) (eK (.int 1))) aNil))))) aNil)))))) (sRet (eK (.bool false))) sNil)
    (sSeq (sAsg (eVar 0) (.tp [(.nm 2), (.nm 3), (.nm 4), (.nm 5)]))
    (sRet (eAnd (cBin gNe (eVar 2) (eVar 3)) (eAnd (eCall m_is_among [false, false, false] false (aCons (eVar 4) (aCons (eK (.int 1)) (aCons (eK (.int 99)) aNil)))) (eCall m_is_among [false, false, false] false (aCons (eVar 5) (aCons (eK (.int 0)) (aCons (eK (.int 99)) aNil)))))))))
def m_is_road : Fm := runFn false [false, false] 5 b_is_road
def b_is_net : Sv := (sSeq (sIf (tOr_ (tNo (tV (cUn (gIsa "tuple") (eVar 0)))) (tOr_ (tV (cBin gNe (cCB gLen (aCons (eVar 0) aNil)) (eK (.int 2)))) (tNo (tV (eCall m_is_among [false, false, false] false (aCons (cBin gIx (eVar 0) (eK (.int 0))) (aCons (eK (.int 1)) (aCons (eK (.int 10)) aNil)))))))) (sRet (eK (.bool false))) sNil)
    (sSeq (sAsg (eVar 0) (.tp [(.nm 1), (.nm 2)]))
    (sRet (eAnd (cUn (gIsa "tuple") (eVar 2)) (eAnd (cBin (gI fLe) (cCB gLen (aCons (eVar 2) aNil)) (eK (.int 30))) (cCB gAll (aCons (eComp (srcSeq (eVar 2)) (.nm 3) [3] tTrue (eCall m_is_road [false, false] false (aCons (eVar 3) (aCons (eVar 1) aNil)))) aNil)))))))
def m_is_net : Fm := runFn false [false] 3 b_is_net
def b_need_net : Sv := (sIf (tNo (tV (eCall m_is_net [false] false (aCons (eVar 0) aNil)))) (sRaise "NoNet") sNil)
def m_need_net : Fm := runFn false [false] 0 b_need_net
def b_is_place : Sv := (sRet (eCall m_is_among [false, false, false] false (aCons (eVar 1) (aCons (eK (.int 0)) (aCons (cBin (gI fSub) (cBin gIx (eVar 0) (eK (.int 0))) (eK (.int 1))) aNil)))))
def m_is_place : Fm := runFn false [false, false] 0 b_is_place
def b_need_place : Sv := (sIf (tNo (tV (eCall m_is_place [false, false] false (aCons (eVar 0) (aCons (eVar 1) aNil))))) (sRaise "NoPlace") sNil)
def m_need_place : Fm := runFn false [false, false] 0 b_need_place
def l_pairs_from_1 : Sv := (sIf (tV (cBin gEq (eVar 8) (eVar 7))) (sExp (eMt mAppD (eSetL 0 (eVar 4) (cBin gAdd (eVar 5) (eVar 10))) (aCons (eTup (aCons (cBin gAdd (eVar 6) (eVar 11)) (aCons (eVar 9) aNil))) aNil))) sNil)
def l_pairs_from_2 : Sv := (sIf (tOr_ (tV (cBin gEq (eIxI (eVar 3) (eVar 7)) (eLst aNil))) (tV (cBin (gI fLt) (eVar 6) (cBin gIx (cBin gIx (eIxI (eVar 3) (eVar 7)) (cUn gNeg (eK (.int 1)))) (eK (.int 1)))))) (sSeq (sExp (eMt mAppI (eIxI (eVar 3) (eVar 7)) (aCons (eTup (aCons (eVar 5) (aCons (eVar 6) aNil))) aNil)))
    (sFor (srcSeq (eVar 1)) (.tp [(.nm 8), (.nm 9), (.nm 10), (.nm 11)]) l_pairs_from_1)) sNil)
def l_pairs_from_3 : Sv := (sSeq (sFor (srcSeq (cCB gSorted (aCons (ePopL (eVar 4) (eVar 5)) aNil))) (.tp [(.nm 6), (.nm 7)]) l_pairs_from_2)
    (sAug 5 (gI fAdd) (eK (.int 1))))
def b_pairs_from : Sv := (sSeq (sSet 3 (eCompE (srcRng1 (aCons (eVar 0) aNil))))
    (sSeq (sPar 4 5 (aCons (eDil1 0 0 2) (aCons (eK (.int 0)) aNil)))
    (sSeq (sWhile 1000000 (tV (cBin gNeD (eVar 4) (eK (.dict [])))) l_pairs_from_3)
    (sFrz 0 3 (sRet (cCB gTuple (aCons (eComp (srcSeq (eVar 3)) (.nm 12) [12] tTrue (cCB gTuple (aCons (eVar 12) aNil))) aNil)))))))
def m_pairs_from : Fm := runFn false [false, false, false] 10 b_pairs_from
def b_fence_of : Sv := (sSeq (sExp (eCall m_need_net [false] false (aCons (eVar 0) aNil)))
    (sSeq (sExp (eCall m_need_place [false, false] false (aCons (eVar 0) (aCons (eVar 1) aNil))))
    (sSeq (sAsg (eVar 0) (.tp [(.nm 2), (.nm 3)]))
    (sRet (eCall m_pairs_from [false, false, false] false (aCons (eVar 2) (aCons (eVar 3) (aCons (eVar 1) aNil))))))))
def m_fence_of : Fm := runFn false [false, false] 2 b_fence_of
def b__law_cell_at : Sv := (sSeq (sIf (tV (cBin (gI fLt) (eVar 1) (cCB gLen (aCons (eVar 0) aNil)))) (sRet (cBin gIx (eVar 0) (eVar 1))) sNil)
    (sRet (eK (.int 0))))
def m__law_cell_at : Fm := runFn false [false, false] 0 b__law_cell_at
def b__law_state : Sv := (sSeq (sSet 2 (eCall m__law_cell_at [false, false] false (aCons (eVar 0) (aCons (eVar 1) aNil))))
    (sRet (eNew (aCons (cCB gMax2 (aCons (eK (.int 0)) (aCons (cBin (gI fSub) (eVar 2) (cBin (gI fPow) (eK (.int 10)) (eK (.int 18)))) aNil))) (aCons (cBin (gI fMod) (eVar 2) (eK (.int 2147483647))) aNil)))))
def m__law_state : Fm := runFn true [false, false] 1 b__law_state
def b__law_take : Sv := (sSeq (sIf (tV (cBin (gI fGt) (cBin gIx (eVar 0) (eK (.int 0))) (eK (.int 0)))) (sSeq (sSet 2 (cBin (gI fMod) (cBin gIx (eVar 0) (eK (.int 0))) (eVar 1)))
    (sSeq (sPut (eVar 0) (eK (.int 0)) (cBin (gI fDiv) (cBin gIx (eVar 0) (eK (.int 0))) (eVar 1)))
    (sRet (eVar 2)))) sNil)
    (sSeq (sPut (eVar 0) (eK (.int 1)) (cBin (gI fMod) (cBin gAdd (cBin (gI fMul) (cBin gIx (eVar 0) (eK (.int 1))) (eK (.int 48271))) (eK (.int 29))) (eK (.int 2147483647))))
    (sSeq (sSet 3 (cBin (gI fMod) (cBin gAdd (cBin gAdd (cBin (gI fMul) (cBin gIx (eVar 0) (eK (.int 1))) (cBin gIx (eVar 0) (eK (.int 1)))) (cBin (gI fMul) (eK (.int 39373)) (cBin gIx (eVar 0) (eK (.int 1))))) (eK (.int 7))) (eK (.int 2147483629))))
    (sSeq (sSet 3 (cBin (gI fMod) (cBin gAdd (cBin (gI fMul) (eVar 3) (eVar 3)) (cBin (gI fMul) (eK (.int 16807)) (eVar 3))) (eK (.int 2147483587))))
    (sRet (cBin (gI fMod) (cBin (gI fDiv) (eVar 3) (eK (.int 8))) (eVar 1)))))))
def m__law_take : Fm := runFn false [true, false] 2 b__law_take
def l__law_net_1 : Sv := (sSeq (sSet 6 (cBin gIx (eLst (aCons (eCall m__law_take [true, false] false (aCons (eVar 0) (aCons (eVar 3) aNil))) (aCons (cCB gMin2 (aCons (eVar 5) (aCons (cBin (gI fSub) (eVar 3) (eK (.int 1))) aNil))) aNil))) (eCall m__law_take [true, false] false (aCons (eVar 0) (aCons (eK (.int 2)) aNil)))))
    (sSeq (sSet 7 (cBin (gI fMod) (cBin gAdd (cBin gAdd (eVar 6) (eK (.int 1))) (cBin gIx (eLst (aCons (eK (.int 0)) (aCons (eCall m__law_take [true, false] false (aCons (eVar 0) (aCons (cBin (gI fSub) (eVar 3) (eK (.int 1))) aNil))) aNil))) (eCall m__law_take [true, false] false (aCons (eVar 0) (aCons (eK (.int 2)) aNil))))) (eVar 3)))
    (sSeq (sSet 8 (cBin gIx (eLst (aCons (cBin gAdd (eK (.int 1)) (eCall m__law_take [true, false] false (aCons (eVar 0) (aCons (eK (.int 4)) aNil)))) (aCons (cBin gAdd (eK (.int 1)) (eCall m__law_take [true, false] false (aCons (eVar 0) (aCons (eK (.int 99)) aNil)))) (aCons (eK (.int 1)) aNil)))) (eCall m__law_take [true, false] false (aCons (eVar 0) (aCons (eK (.int 3)) aNil)))))
    (sSeq (sSet 9 (cBin gIx (eLst (aCons (eCall m__law_take [true, false] false (aCons (eVar 0) (aCons (eK (.int 4)) aNil))) (aCons (eCall m__law_take [true, false] false (aCons (eVar 0) (aCons (eK (.int 100)) aNil))) (aCons (eK (.int 0)) aNil)))) (eCall m__law_take [true, false] false (aCons (eVar 0) (aCons (eK (.int 3)) aNil)))))
    (sExp (eMt mAppend (eVar 4) (aCons (eTup (aCons (eVar 6) (aCons (eVar 7) (aCons (eVar 8) (aCons (eVar 9) aNil))))) aNil)))))))
def b__law_net : Sv := (sSeq (sPar 3 4 (aCons (cBin gAdd (eK (.int 1)) (eCall m__law_take [true, false] false (aCons (eVar 0) (aCons (eVar 1) aNil)))) (aCons (eNew aNil) aNil)))
    (sSeq (sFor (srcRng1 (aCons (cBin (gI fMul) (eCall m__law_take [true, false] false (aCons (eVar 0) (aCons (cBin gAdd (eVar 2) (eK (.int 1))) aNil))) (cCB gInt (aCons (cBin (gI fGt) (eVar 3) (eK (.int 1))) aNil))) aNil)) (.nm 5) l__law_net_1)
    (sRet (eTup (aCons (eVar 3) (aCons (cCB gTuple (aCons (eVar 4) aNil)) aNil))))))
def m__law_net : Fm := runFn false [true, false, false] 7 b__law_net
def l__law_pairs_1 : Sv := (sIf (tV (cBin gEq (eVar 7) (eVar 6))) (sExp (eMt mAppend (eVar 3) (aCons (eTup (aCons (cBin gAdd (eVar 4) (eVar 9)) (aCons (cBin gAdd (eVar 5) (eVar 10)) (aCons (eVar 8) aNil)))) aNil))) sNil)
def l__law_pairs_2 : Sv := (sSeq (sAsg (cCB gMinL (aCons (eVar 3) aNil)) (.tp [(.nm 4), (.nm 5), (.nm 6)]))
    (sSeq (sExp (eMt mRemove (eVar 3) (aCons (eTup (aCons (eVar 4) (aCons (eVar 5) (aCons (eVar 6) aNil)))) aNil)))
    (sIf (tV (cBin gEq (eCompI (eIxI (eVar 2) (eVar 6)) (.nm 7) [7] (tAn (tV (cBin (gI fLe) (cBin gIx (eVar 7) (eK (.int 0))) (eVar 4))) (tV (cBin (gI fLe) (cBin gIx (eVar 7) (eK (.int 1))) (eVar 5)))) (eVar 7)) (eLst aNil))) (sSeq (sExp (eMt mAppI (eIxI (eVar 2) (eVar 6)) (aCons (eTup (aCons (eVar 4) (aCons (eVar 5) aNil))) aNil)))
    (sFor (srcSeq (cBin gIx (eVar 0) (eK (.int 1)))) (.tp [(.nm 7), (.nm 8), (.nm 9), (.nm 10)]) l__law_pairs_1)) sNil)))
def b__law_pairs : Sv := (sSeq (sPar 2 3 (aCons (eCompE (srcRng1 (aCons (cBin gIx (eVar 0) (eK (.int 0))) aNil))) (aCons (eNew (aCons (eTup (aCons (eK (.int 0)) (aCons (eK (.int 0)) (aCons (eVar 1) aNil)))) aNil)) aNil)))
    (sSeq (sWhile 1000000 (tV (cBin gNe (eVar 3) (eLst aNil))) l__law_pairs_2)
    (sFrz 0 2 (sRet (cCB gTuple (aCons (eComp (srcSeq (eVar 2)) (.nm 11) [11] tTrue (cCB gTuple (aCons (eVar 11) aNil))) aNil))))))
def m__law_pairs : Fm := runFn false [false, false] 10 b__law_pairs
def l_law_1 : Sv := (sSeq (sSet 2 (eCallN m__law_state [false, false] (aCons (eVar 0) (aCons (eVar 1) aNil))))
    (sSeq (sSet 3 (eCall m__law_net [true, false, false] false (aCons (eVar 2) (aCons (eK (.int 8)) (aCons (eK (.int 16)) aNil)))))
    (sSeq (sPar 4 5 (aCons (cCB gReprX (aCons (eVar 3) aNil)) (aCons (eCall m__law_take [true, false] false (aCons (eVar 2) (aCons (cBin gIx (eVar 3) (eK (.int 0))) aNil))) aNil)))
    (sSeq (sSet 6 (eCall m__law_pairs [false, false] false (aCons (eVar 3) (aCons (eVar 5) aNil))))
    (sSeq (sSet 7 (eLst (aCons (eCall m_fence_of [false, false] false (aCons (eVar 3) (aCons (eVar 5) aNil))) (aCons (eCall m_fence_of [false, false] false (aCons (eVar 3) (aCons (eVar 5) aNil))) aNil))))
    (sIf (tOr_ (tV (cBin gNe (cCB gReprX (aCons (eVar 7) aNil)) (cCB gReprX (aCons (eLst (aCons (eVar 6) (aCons (eVar 6) aNil))) aNil)))) (tV (cBin gNe (cCB gReprX (aCons (eVar 3) aNil)) (eVar 4)))) (sRet (eK (.bool false))) sNil))))))
def b_law : Sv := (sSeq (sIf (tV (cBin gNe (eCall m_fence_of [false, false] false (aCons (eTup (aCons (eK (.int 3)) (aCons (eTup (aCons (eTup (aCons (eK (.int 0)) (aCons (eK (.int 1)) (aCons (eK (.int 2)) (aCons (eK (.int 5)) aNil))))) (aCons (eTup (aCons (eK (.int 0)) (aCons (eK (.int 1)) (aCons (eK (.int 3)) (aCons (eK (.int 4)) aNil))))) (aCons (eTup (aCons (eK (.int 0)) (aCons (eK (.int 1)) (aCons (eK (.int 3)) (aCons (eK (.int 5)) aNil))))) aNil)))) aNil))) (aCons (eK (.int 0)) aNil))) (eTup (aCons (eTup (aCons (eTup (aCons (eK (.int 0)) (aCons (eK (.int 0)) aNil))) aNil)) (aCons (eTup (aCons (eTup (aCons (eK (.int 2)) (aCons (eK (.int 5)) aNil))) (aCons (eTup (aCons (eK (.int 3)) (aCons (eK (.int 4)) aNil))) aNil))) (aCons (eTup aNil) aNil)))))) (sRet (eK (.bool false))) sNil)
    (sSeq (sFor (srcRng1 (aCons (cCB gMax2 (aCons (eK (.int 1)) (aCons (cCB gMin2 (aCons (cCB gLen (aCons (eVar 0) aNil)) (aCons (eK (.int 4)) aNil))) aNil))) aNil)) (.nm 1) l_law_1)
    (sRet (eK (.bool true)))))
def m_law : Fm := runFn false [false] 7 b_law
end FL

namespace FL
open PySem PySem.Spec PyProof.Rows L2
@[simp] theorem e_among {i a b : Int} : m_is_among [.int i, .int a, .int b] [] = .ok (.bool (decide (a ≤ i) && decide (i ≤ b))) [] := by
  simp [m_is_among, b_is_among]
theorem e_road {n : Nat} {r : Road} (h : r.Ok n) : m_is_road [r.d, .int n] [] = .ok (.bool true) [] := by
  obtain ⟨h1, h2, h3, h4, h5, h6⟩ := h
  have w1 : (r.one : Int) ≤ n - 1 := by omega
  have w2 : (r.other : Int) ≤ n - 1 := by omega
  have w3 : (1 : Int) ≤ r.cost := by omega
  have w4 : (r.cost : Int) ≤ 99 := by omega
  have w5 : (r.time : Int) ≤ 99 := by omega
  have w6 : ¬ (r.one : Int) = r.other := by omega
  simp [m_is_road, b_is_road, Road.d, cut_to2, compL, bools?, w1, w2, w3, w4, w5, w6]
theorem e_net {n : Nat} {rs : List Road} (h : NetOk n rs) : m_is_net [netD n rs] [] = .ok (.bool true) [] := by
  obtain ⟨h1, h2, h3, h4⟩ := h
  have w1 : (1 : Int) ≤ n := by omega
  have w2 : (n : Int) ≤ 10 := by omega
  have w3 : (rs.length : Int) ≤ 30 := by omega
  simp [m_is_net, b_is_net, netD, w1, w2, w3]
  rw [comp_map (dd := Road.d) (w := fun _ => .bool true) (fun z => by simp; rfl) (fun z => rfl) rs [] (fun z m => by simp [e_road (h4 z m)]) (by simp; omega)]
  simp [bools_map]
@[simp] theorem e_needNet {n : Nat} {rs : List Road} (h : NetOk n rs) : m_need_net [netD n rs] [] = .ok .none [] := by
  simp [m_need_net, b_need_net, e_net h]
end FL

namespace FL
open PySem PySem.Spec PyProof.Rows L2
@[simp] theorem e_place {n : Nat} {rs : List Road} {i : Int} : m_is_place [netD n rs, .int i] [] = .ok (.bool (decide (0 ≤ i) && decide (i ≤ n - 1))) [] := by
  simp [m_is_place, b_is_place, netD]
theorem e_needPlace {n p : Nat} {rs : List Road} (h : p < n) : m_need_place [netD n rs, .int p] [] = .ok .none [] := by
  have w1 : (p : Int) ≤ n - 1 := by omega
  simp [m_need_place, b_need_place, w1]
end FL

namespace FL
open PySem PySem.Spec PyProof.Rows L2
/-! ### pairs that none beats: plain -/
/-- cost, time, place -/
structure Lb where
  c : Nat
  t : Nat
  p : Nat
deriving DecidableEq
def Lb.le (x y : Lb) : Prop := x.c < y.c ∨ (x.c = y.c ∧ (x.t < y.t ∨ (x.t = y.t ∧ x.p ≤ y.p)))
theorem Lb.anti {x y : Lb} (a : x.le y) (b : y.le x) : x = y := by
  cases x; cases y
  unfold Lb.le at a b
  simp only [Lb.mk.injEq] at *
  omega
abbrev Ff := Nat → List (Nat × Nat)
def acc (F : Ff) (x : Lb) : Bool := (F x.p).all fun y => !(decide (y.1 ≤ x.c) && decide (y.2 ≤ x.t))
def addF (F : Ff) (x : Lb) : Ff := fun q => if q = x.p then F q ++ [(x.c, x.t)] else F q
def stF (F : Ff) (x : Lb) : Ff := if acc F x = true then addF F x else F
def psh (rs : List Road) (F : Ff) (x : Lb) : List Lb := if acc F x = true then (rs.filter fun r => decide (r.one = x.p)).map fun r => ⟨x.c + r.cost, x.t + r.time, r.other⟩ else []
inductive Run (rs : List Road) : Ff → List Lb → Ff → Prop
  | done (F : Ff) : Run rs F [] F
  | step {F : Ff} {B B' : List Lb} {G : Ff} (x : Lb) (p : B.Perm (x :: B')) (m : ∀ y ∈ B', x.le y) (r : Run rs (stF F x) (B' ++ psh rs F x) G) : Run rs F B G
theorem Run.perm {rs : List Road} {F G : Ff} {B B2 : List Lb} (r : Run rs F B G) (q : B2.Perm B) : Run rs F B2 G := by
  cases r with
  | done =>
    have : B2 = [] := q.eq_nil
    subst this
    exact .done F
  | step x p m r => exact .step x (q.trans p) m r
/-- the next label is known -/
theorem Run.next {rs : List Road} {F G : Ff} {B' : List Lb} {x : Lb} (r : Run rs F (x :: B') G) (m : ∀ y ∈ B', x.le y) : Run rs (stF F x) (B' ++ psh rs F x) G := by
  cases r with
  | step z p m2 r =>
    have e : x = z := by
      have h1 : x ∈ z :: _ := p.mem_iff.mp List.mem_cons_self
      have h2 : z ∈ x :: B' := p.mem_iff.mpr List.mem_cons_self
      rcases List.mem_cons.mp h1 with e | h1
      · exact e
      · rcases List.mem_cons.mp h2 with e | h2
        · exact e.symm
        · exact Lb.anti (m z h2) (m2 x h1)
    subst e
    exact r.perm (List.Perm.append_right _ ((List.perm_cons x).mp p))
theorem Run.nil {rs : List Road} {F G : Ff} (r : Run rs F [] G) : F = G := by
  cases r with
  | done => rfl
  | step x p => exact absurd p.symm.eq_nil (by simp)
/-! ### bounds -/
/-- places that a label has come by -/
def Hist (n : Nat) (F : Ff) (x : Lb) : Prop := ∃ L : List Nat, L.Nodup ∧ (∀ q ∈ L, q < n) ∧ x.c ≤ 99 * L.length ∧ x.t ≤ 99 * L.length ∧ ∀ q ∈ L, ∃ y ∈ F q, y.1 ≤ x.c ∧ y.2 ≤ x.t
theorem nodup_lt : ∀ {n : Nat} {L : List Nat}, L.Nodup → (∀ q ∈ L, q < n) → L.length ≤ n
  | 0, [], _, _ => Nat.le_refl _
  | 0, q :: _, _, h => absurd (h q List.mem_cons_self) (Nat.not_lt_zero _)
  | n + 1, L, nd, h => by
    have h1 : (L.erase n).length ≤ n := nodup_lt (nd.erase n) fun q m => by
      have := h q (List.mem_of_mem_erase m)
      have : q ≠ n := fun e => by
        subst e
        exact (List.Nodup.not_mem_erase nd) m
      omega
    have h2 : L.length ≤ (L.erase n).length + 1 := by
      rw [List.length_erase]
      split <;> omega
    omega
theorem Hist.low {n : Nat} {F : Ff} {x : Lb} (h : Hist n F x) : x.c ≤ 99 * n ∧ x.t ≤ 99 * n := by
  obtain ⟨L, nd, lt, hc, ht, _⟩ := h
  have := nodup_lt nd lt
  omega
theorem addF_sub {F : Ff} {x : Lb} {q : Nat} {y : Nat × Nat} (m : y ∈ F q) : y ∈ stF F x q := by
  unfold stF
  split
  · unfold addF
    split
    · exact List.mem_append_left _ m
    · exact m
  · exact m
theorem Hist.mono {n : Nat} {F : Ff} {x z : Lb} (h : Hist n F z) : Hist n (stF F x) z := by
  obtain ⟨L, nd, lt, hc, ht, w⟩ := h
  exact ⟨L, nd, lt, hc, ht, fun q m => let ⟨y, m1, m2⟩ := w q m; ⟨y, addF_sub m1, m2⟩⟩
theorem Hist.push {n : Nat} {rs : List Road} {F : Ff} {x z : Lb} (hn : NetOk n rs) (hp : x.p < n) (h : Hist n F x) (m : z ∈ psh rs F x) : Hist n (stF F x) z ∧ z.p < n := by
  unfold psh at m
  split at m
  · rename_i ha
    obtain ⟨r, hr, rfl⟩ := List.mem_map.mp m
    obtain ⟨hr1, hr2⟩ := List.mem_filter.mp hr
    have ok := hn.all r hr1
    obtain ⟨L, nd, lt, hc, ht, w⟩ := h
    have np : x.p ∉ L := fun q => by
      obtain ⟨y, m1, m2, m3⟩ := w x.p q
      have := List.all_eq_true.mp ha y m1
      simp [m2, m3] at this
    refine ⟨⟨x.p :: L, List.nodup_cons.mpr ⟨np, nd⟩, fun q mq => ?_, ?_, ?_, fun q mq => ?_⟩, ?_⟩
    · rcases List.mem_cons.mp mq with rfl | mq
      · exact hp
      · exact lt q mq
    · have := ok.c2
      simp only [List.length_cons]
      omega
    · have := ok.t
      simp only [List.length_cons]
      omega
    · rcases List.mem_cons.mp mq with rfl | mq
      · refine ⟨(x.c, x.t), ?_, by simp, by simp⟩
        unfold stF
        rw [if_pos ha]
        unfold addF
        rw [if_pos rfl]
        exact List.mem_append_right _ (List.mem_singleton.mpr rfl)
      · obtain ⟨y, m1, m2, m3⟩ := w q mq
        exact ⟨y, addF_sub m1, Nat.le_trans m2 (Nat.le_add_right _ _), Nat.le_trans m3 (Nat.le_add_right _ _)⟩
    · exact ok.other
  · cases m
end FL

namespace FL
open PySem PySem.Spec PyProof.Rows L2
/-! ### labels taken in order: what stands, and that it ends -/
structure Inv (n : Nat) (F : Ff) (B : List Lb) : Prop where
  hist : ∀ x ∈ B, Hist n F x ∧ x.p < n
  ord : ∀ p, (F p).Pairwise fun a b => a.1 < b.1 ∧ b.2 < a.2
  low : ∀ p, ∀ y ∈ F p, y.1 ≤ 990 ∧ y.2 ≤ 990
  lex : ∀ p, ∀ y ∈ F p, ∀ x ∈ B, y.1 < x.c ∨ (y.1 = x.c ∧ y.2 ≤ x.t)
  out : ∀ p, n ≤ p → F p = []
def tot (n : Nat) (F : Ff) : Nat := ((List.range n).map fun p => (F p).length).sum
def mu (n : Nat) (F : Ff) (B : List Lb) : Nat := B.length + 31 * (991 * n - tot n F)
theorem falls {l : List (Nat × Nat)} (h : l.Pairwise fun a b => a.1 < b.1 ∧ b.2 < a.2) (w : ∀ y ∈ l, y.2 ≤ 990) : l.length ≤ 991 := by
  have nd : (l.map (·.2)).Nodup := List.pairwise_map.mpr (h.imp fun q => by omega)
  have := nodup_lt (n := 991) nd fun q m => by
    obtain ⟨y, hy, rfl⟩ := List.mem_map.mp m
    have := w y hy
    omega
  simpa using this
theorem Inv.len {n : Nat} {F : Ff} {B : List Lb} (i : Inv n F B) (p : Nat) : (F p).length ≤ 991 := falls (i.ord p) fun y m => (i.low p y m).2
theorem tot_le {F : Ff} (h : ∀ p, (F p).length ≤ 991) : ∀ n, tot n F ≤ 991 * n
  | 0 => Nat.zero_le _
  | n + 1 => by
    have := tot_le h n
    have := h n
    unfold tot at *
    rw [List.range_succ, List.map_append, List.sum_append, List.map_singleton, List.sum_singleton]
    omega
theorem tot_add {F : Ff} {x : Lb} : ∀ n, tot n (addF F x) = tot n F + if x.p < n then 1 else 0
  | 0 => rfl
  | n + 1 => by
    have ih := tot_add (F := F) (x := x) n
    unfold tot at *
    rw [List.range_succ, List.map_append, List.sum_append, List.map_singleton, List.sum_singleton, List.map_append, List.sum_append, List.map_singleton, List.sum_singleton, ih]
    have e : (addF F x n).length = (F n).length + if n = x.p then 1 else 0 := by
      unfold addF
      split <;> simp
    rw [e]
    split <;> split <;> split <;> omega
theorem acc_iff {n : Nat} {F : Ff} {x : Lb} {B : List Lb} (i : Inv n F (x :: B)) : acc F x = true ↔ ∀ y ∈ F x.p, x.t < y.2 := by
  unfold acc
  rw [List.all_eq_true]
  constructor
  · intro h y m
    have h1 := h y m
    have := i.lex _ y m x List.mem_cons_self
    have h2 : y.1 ≤ x.c := by omega
    simp [h2] at h1
    exact h1
  · intro h y m
    have := h y m
    have h2 : ¬ y.2 ≤ x.t := by omega
    simp [h2]
theorem Inv.step {n : Nat} {rs : List Road} {F : Ff} {x : Lb} {B : List Lb} (hn : NetOk n rs) (i : Inv n F (x :: B)) (m : ∀ y ∈ B, x.le y) : Inv n (stF F x) (B ++ psh rs F x) ∧ mu n (stF F x) (B ++ psh rs F x) < mu n F (x :: B) := by
  have n2 := hn.n2
  have hl := hn.len
  obtain ⟨hx, hp⟩ := i.hist x List.mem_cons_self
  have lo := hx.low
  have hh : ∀ z ∈ B ++ psh rs F x, Hist n (stF F x) z ∧ z.p < n := fun z mz => by
    rcases List.mem_append.mp mz with mz | mz
    · obtain ⟨a, b⟩ := i.hist z (List.mem_cons_of_mem _ mz)
      exact ⟨a.mono, b⟩
    · exact Hist.push hn hp hx mz
  have hc : ∀ z ∈ B ++ psh rs F x, x.c < z.c ∨ (x.c = z.c ∧ x.t ≤ z.t) := fun z mz => by
    rcases List.mem_append.mp mz with mz | mz
    · have := m z mz
      unfold Lb.le at this
      omega
    · unfold psh at mz
      split at mz
      · obtain ⟨r, hr, rfl⟩ := List.mem_map.mp mz
        have ok := hn.all r (List.mem_filter.mp hr).1
        have := ok.c1
        exact .inl (by show x.c < x.c + r.cost; omega)
      · cases mz
  by_cases ha : acc F x = true
  · have hs : stF F x = addF F x := by unfold stF; rw [if_pos ha]
    have hq := (acc_iff i).mp ha
    have hlen : (psh rs F x).length ≤ 30 := by
      unfold psh
      rw [if_pos ha, List.length_map]
      exact Nat.le_trans (List.length_filter_le _ _) hl
    have I2 : Inv n (stF F x) (B ++ psh rs F x) := by
      refine ⟨hh, fun p => ?_, fun p y my => ?_, fun p y my z mz => ?_, fun p h => ?_⟩
      · rw [hs]
        unfold addF
        split
        · rename_i e
          subst e
          rw [List.pairwise_append]
          refine ⟨i.ord _, List.pairwise_singleton _ _, fun a ma b mb => ?_⟩
          rw [List.mem_singleton.mp mb]
          have h1 := hq a ma
          have h2 := i.lex _ a ma x List.mem_cons_self
          show a.1 < x.c ∧ x.t < a.2
          omega
        · exact i.ord p
      · rw [hs] at my
        unfold addF at my
        split at my
        · rcases List.mem_append.mp my with my | my
          · exact i.low p y my
          · rw [List.mem_singleton.mp my]
            show x.c ≤ 990 ∧ x.t ≤ 990
            omega
        · exact i.low p y my
      · rw [hs] at my
        unfold addF at my
        have old : y ∈ F p → y.1 < z.c ∨ (y.1 = z.c ∧ y.2 ≤ z.t) := fun my => by
          have h1 := i.lex p y my x List.mem_cons_self
          have h2 := hc z mz
          omega
        split at my
        · rcases List.mem_append.mp my with my | my
          · exact old my
          · rw [List.mem_singleton.mp my]
            exact hc z mz
        · exact old my
      · rw [hs]
        unfold addF
        rw [if_neg (by omega)]
        exact i.out p h
    refine ⟨I2, ?_⟩
    have t1 := tot_le (fun p => I2.len p) n
    rw [hs] at t1
    have t2 := tot_add (F := F) (x := x) n
    rw [if_pos hp] at t2
    unfold mu
    rw [hs, List.length_append, List.length_cons]
    omega
  · have hs : stF F x = F := by unfold stF; rw [if_neg ha]
    have hz : psh rs F x = [] := by unfold psh; rw [if_neg ha]
    rw [hs, hz, List.append_nil]
    refine ⟨⟨fun z mz => i.hist z (List.mem_cons_of_mem _ mz), i.ord, i.low, fun p y my z mz => i.lex p y my z (List.mem_cons_of_mem _ mz), i.out⟩, ?_⟩
    unfold mu
    rw [List.length_cons]
    omega
theorem Inv.perm {n : Nat} {F : Ff} {B C : List Lb} (i : Inv n F B) (p : B.Perm C) : Inv n F C := ⟨fun x m => i.hist x (p.mem_iff.mpr m), i.ord, i.low, fun q y my x m => i.lex q y my x (p.mem_iff.mpr m), i.out⟩
theorem mu_perm {n : Nat} {F : Ff} {B C : List Lb} (p : B.Perm C) : mu n F B = mu n F C := by unfold mu; rw [p.length_eq]
instance (x y : Lb) : Decidable (x.le y) := by unfold Lb.le; exact inferInstance
theorem Lb.le_refl (x : Lb) : x.le x := by unfold Lb.le; omega
theorem Lb.le_trans {x y z : Lb} (a : x.le y) (b : y.le z) : x.le z := by unfold Lb.le at *; omega
theorem Lb.le_total (x y : Lb) : x.le y ∨ y.le x := by unfold Lb.le; omega
theorem least_ex : ∀ (x : Lb) (B : List Lb), ∃ y C, (x :: B).Perm (y :: C) ∧ ∀ z ∈ C, y.le z
  | x, [] => ⟨x, [], .refl _, by simp⟩
  | x, b :: B => by
    obtain ⟨y, C, p, h⟩ := least_ex b B
    rcases Lb.le_total x y with q | q
    · refine ⟨x, y :: C, List.Perm.cons _ p, fun z m => ?_⟩
      rcases List.mem_cons.mp m with rfl | m
      · exact q
      · exact Lb.le_trans q (h z m)
    · refine ⟨y, x :: C, (List.Perm.cons _ p).trans (.swap ..), fun z m => ?_⟩
      rcases List.mem_cons.mp m with rfl | m
      · exact q
      · exact h z m
theorem run_end {n : Nat} {rs : List Road} (hn : NetOk n rs) : ∀ (k : Nat) (F : Ff) (B : List Lb), mu n F B < k → Inv n F B → ∃ G, Run rs F B G
  | 0, _, _, h, _ => absurd h (Nat.not_lt_zero _)
  | k + 1, F, [], _, _ => ⟨F, .done F⟩
  | k + 1, F, b :: B, h, i => by
    obtain ⟨x, C, p, q⟩ := least_ex b B
    obtain ⟨j, l⟩ := (i.perm p).step hn q
    rw [← mu_perm p] at l
    obtain ⟨G, r⟩ := run_end hn k _ _ (by omega) j
    exact ⟨G, .step x p q r⟩
def Fe : Ff := fun _ => []
theorem inv0 {n s : Nat} (hs : s < n) : Inv n Fe [⟨0, 0, s⟩] := by
  refine ⟨fun x m => ?_, fun p => .nil, fun p y m => (by cases m), fun p y m => (by cases m), fun _ _ => rfl⟩
  rw [List.mem_singleton.mp m]
  exact ⟨⟨[], List.nodup_nil, by simp, by simp, by simp, by simp⟩, hs⟩
theorem mu0 {n s : Nat} (hn : n ≤ 10) : mu n Fe [⟨0, 0, s⟩] ≤ 310000 := by
  unfold mu
  simp
  omega
theorem run_ex0 {n s : Nat} {rs : List Road} (hn : NetOk n rs) (hs : s < n) : ∃ G, Run rs Fe [⟨0, 0, s⟩] G := run_end hn _ _ _ (Nat.lt_succ_self _) (inv0 hs)
theorem Run.inv {n : Nat} {rs : List Road} {F G : Ff} {B : List Lb} (hn : NetOk n rs) (r : Run rs F B G) : Inv n F B → Inv n G [] := by
  induction r with
  | done F => exact id
  | step x p m r ih => exact fun i => ih ((i.perm p).step hn m).1
/-! ### as data -/
def ctD (y : Nat × Nat) : PyData := .tuple [.int (y.1 : Nat), .int (y.2 : Nat)]
def trD (x : Lb) : PyData := .tuple [.int (x.c : Nat), .int (x.t : Nat), .int (x.p : Nat)]
def ffL (n : Nat) (F : Ff) : List (List PyData) := rowsL n fun p => (F p).map ctD
def fenceD (n : Nat) (F : Ff) : PyData := .tuple ((List.range n).map fun p => .tuple ((F p).map ctD))
end FL

namespace FL
open PySem PySem.Spec PyProof.Rows L2 PySem.W
/-! ### rows (cost, time, place) -/
theorem alike_tr (a b : Lb) : alike (trD a) (trD b) = true := by simp [trD, alike, alikeAll]
theorem eqv_tr (a b : Lb) : PyData.eqv (trD a) (trD b) = decide (a = b) := by
  have e : (a = b) ↔ ((a.c : Int) = b.c ∧ (a.t : Int) = b.t ∧ (a.p : Int) = b.p) := by
    cases a; cases b
    simp only [Lb.mk.injEq]
    omega
  rw [Bool.eq_iff_iff, decide_eq_true_iff, e]
  simp [trD, PyData.eqv, PyData.eqvAll]
theorem lt_ints (xs ys : List Int) : dataLt (.tuple (xs.map .int)) (.tuple (ys.map .int)) = decide (xs < ys) := by
  rw [dataLt_tuple]
  exact dataLt_ints _ _
theorem lt_tr (a b : Lb) : dataLt (trD a) (trD b) = decide (¬ b.le a) := by
  have := lt_ints [(a.c : Int), a.t, a.p] [(b.c : Int), b.t, b.p]
  rw [show trD a = .tuple ([(a.c : Int), a.t, a.p].map .int) from rfl, show trD b = .tuple ([(b.c : Int), b.t, b.p].map .int) from rfl, this, decide_eq_decide]
  unfold Lb.le
  simp only [List.cons_lt_cons_iff, List.lt_irrefl, and_false, or_false]
  omega
theorem lay_tr {xs : List Lb} : ∀ d ∈ xs.map trD, d.canLay0 = true ∧ d.depth ≤ 1 := fun d m => by
  obtain ⟨x, _, rfl⟩ := List.mem_map.mp m
  simp [trD, PyData.canLay0, PyData.canLayAll0, PyData.depth, PyData.depthAll]
theorem lay_ct {xs : List (Nat × Nat)} : ∀ d ∈ xs.map ctD, d.canLay0 = true ∧ d.depth ≤ 1 := fun d m => by
  obtain ⟨x, _, rfl⟩ := List.mem_map.mp m
  simp [ctD, PyData.canLay0, PyData.canLayAll0, PyData.depth, PyData.depthAll]
theorem min_tr : ∀ (x : Lb) (xs : List Lb), ∃ p ∈ x :: xs, minD (trD x) (xs.map trD) = trD p ∧ ∀ q ∈ x :: xs, p.le q
  | x, [] => ⟨x, List.mem_cons_self, rfl, fun q m => by rw [List.mem_singleton.mp m]; exact Lb.le_refl _⟩
  | x, y :: xs => by
    by_cases h : dataLt (trD y) (trD x) = true
    · obtain ⟨p, hp, e, hq⟩ := min_tr y xs
      refine ⟨p, List.mem_cons_of_mem _ hp, ?_, fun q m => ?_⟩
      · show List.foldl _ (if dataLt (trD y) (trD x) = true then trD y else trD x) (xs.map trD) = _
        rw [if_pos h]
        exact e
      · rcases List.mem_cons.mp m with rfl | m
        · have h1 := hq y List.mem_cons_self
          rw [lt_tr] at h
          have h2 := of_decide_eq_true h
          rcases Lb.le_total q y with z | z
          · exact absurd z h2
          · exact Lb.le_trans h1 z
        · exact hq q m
    · obtain ⟨p, hp, e, hq⟩ := min_tr x xs
      refine ⟨p, ?_, ?_, fun q m => ?_⟩
      · rcases List.mem_cons.mp hp with rfl | m
        · exact List.mem_cons_self
        · exact List.mem_cons_of_mem _ (List.mem_cons_of_mem _ m)
      · show List.foldl _ (if dataLt (trD y) (trD x) = true then trD y else trD x) (xs.map trD) = _
        rw [if_neg h]
        exact e
      · rcases List.mem_cons.mp m with rfl | m
        · exact hq _ List.mem_cons_self
        · rcases List.mem_cons.mp m with rfl | m
          · have h1 := hq x List.mem_cons_self
            rw [lt_tr] at h
            have h2 : x.le q := Classical.not_not.mp fun z => h (decide_eq_true z)
            exact Lb.le_trans h1 h2
          · exact hq q (List.mem_cons_of_mem _ m)
theorem min_trB (xs : List Lb) : minB (xs.map trD) = true := by
  unfold minB
  rw [Bool.and_eq_true, Bool.and_eq_true, Bool.and_eq_true]
  refine ⟨⟨⟨?_, ?_⟩, ?_⟩, ?_⟩
  · rw [List.all_eq_true]
    intro d m
    obtain ⟨a, _, rfl⟩ := List.mem_map.mp m
    rw [List.all_eq_true]
    intro e m
    obtain ⟨b, _, rfl⟩ := List.mem_map.mp m
    exact alike_tr a b
  · rw [List.all_eq_true]
    intro d m
    obtain ⟨a, _, rfl⟩ := List.mem_map.mp m
    rfl
  · have := (lay_by (lay_tr (xs := xs))).2
    exact decide_eq_true (by omega)
  · have : PyData.hasDictAll (xs.map trD) = false := by
      induction xs with
      | nil => rfl
      | cons x xs ih =>
        show ((trD x).hasDict || PyData.hasDictAll (xs.map trD)) = false
        rw [ih]
        rfl
    rw [this]
    rfl
theorem v_minTr {x : Lb} {xs : List Lb} {h : Hs} {n : Nat} (e : h[n]? = some (.lst ((x :: xs).map trD))) : gMinL [.loc n] h = some (minD (trD x) (xs.map trD)) := by
  unfold gMinL
  simp only [v_liO, e, v_obL, List.map_cons]
  exact if_pos (min_trB (x :: xs))
theorem erase_map' {α β : Type} (f : α → β) : ∀ (xs : List α) (j : Nat), (xs.map f).eraseIdx j = (xs.eraseIdx j).map f
  | [], j => by simp
  | x :: xs, 0 => by simp
  | x :: xs, j + 1 => by simp [erase_map' f xs j]
theorem erase_perm {α : Type} : ∀ (xs : List α) (j : Nat) (h : j < xs.length), xs.Perm (xs[j] :: xs.eraseIdx j)
  | x :: xs, 0, _ => by simp
  | x :: xs, j + 1, h => by
    have := erase_perm xs j (by simpa using h)
    simp only [List.getElem_cons_succ, List.eraseIdx_cons_succ]
    exact (List.Perm.cons x this).trans (.swap ..)
theorem rem_tr {B : List Lb} {x : Lb} (hx : x ∈ B) : ∃ B', (B.map trD).eraseIdx ((B.map trD).findIdx fun z => PyData.eqv z (trD x)) = B'.map trD ∧ B.Perm (x :: B') := by
  have hi : (B.map trD).findIdx (fun z => PyData.eqv z (trD x)) = B.findIdx fun z => decide (z = x) := by
    rw [List.findIdx_map]
    congr 1
    funext z
    exact eqv_tr z x
  have hlt : B.findIdx (fun z => decide (z = x)) < B.length := List.findIdx_lt_length_of_exists ⟨x, hx, decide_eq_true rfl⟩
  have hg : B[B.findIdx (fun z => decide (z = x))] = x := of_decide_eq_true (List.findIdx_getElem (w := hlt))
  refine ⟨B.eraseIdx (B.findIdx fun z => decide (z = x)), ?_, ?_⟩
  · rw [hi, erase_map']
  · have := erase_perm B _ hlt
    rw [hg] at this
    exact this
def pshA (rs : List Road) (x : Lb) : List Lb := (rs.filter fun r => decide (r.one = x.p)).map fun r => ⟨x.c + r.cost, x.t + r.time, r.other⟩
theorem psh_acc {rs : List Road} {F : Ff} {x : Lb} (h : acc F x = true) : psh rs F x = pshA rs x := by unfold psh pshA; rw [if_pos h]
theorem ffL_set {n : Nat} {F : Ff} {x : Lb} (h : x.p < n) : (ffL n F).set x.p ((F x.p).map ctD ++ [ctD (x.c, x.t)]) = ffL n (addF F x) := by
  unfold ffL
  rw [rowsL_set h]
  congr 1
  funext q
  unfold addF
  split
  · rename_i e
    subst e
    simp
  · rfl
theorem lp_for {n s : Nat} {rs : List Road} {x : Lb} {A : Ob} {B : List Lb} {y7 y8 y9 y10 y11 : Option Sl} (hl : B.length + rs.length ≤ 1000000) :
    Nx (sFor (srcSeq (cBin gIx (eVar 0) (eK (.int 1)))) (.tp [(.nm 7), (.nm 8), (.nm 9), (.nm 10)]) l__law_pairs_1 [some (.val (netD n rs)), some (.val (.int s)), some (.loc 0), some (.loc 1), some (.val (.int (x.c : Nat))), some (.val (.int (x.t : Nat))), some (.val (.int (x.p : Nat))), y7, y8, y9, y10, y11] [A, .lst (B.map trD)]) fun e h => ∃ y7 y8 y9 y10 y11 : Option Sl, e = [some (.val (netD n rs)), some (.val (.int s)), some (.loc 0), some (.loc 1), some (.val (.int (x.c : Nat))), some (.val (.int (x.t : Nat))), some (.val (.int (x.p : Nat))), y7, y8, y9, y10, y11] ∧ h = [A, .lst ((B ++ pshA rs x).map trD)] := by
  refine (Nx.forR (ds := rs.map Road.d) (h1 := [A, .lst (B.map trD)]) (I := fun rest e h => ∃ (done todo : List Road) (y7 y8 y9 y10 y11 : Option Sl), rs = done ++ todo ∧ rest = todo.map Road.d ∧ e = [some (.val (netD n rs)), some (.val (.int s)), some (.loc 0), some (.loc 1), some (.val (.int (x.c : Nat))), some (.val (.int (x.t : Nat))), some (.val (.int (x.p : Nat))), y7, y8, y9, y10, y11] ∧ h = [A, .lst ((B ++ pshA done x).map trD)]) (by simp [netD]) ⟨[], rs, y7, y8, y9, y10, y11, rfl, rfl, rfl, by simp [pshA]⟩ ?_).mono ?_
  · rintro d rest _ _ ⟨done, todo, y7, y8, y9, y10, y11, er, e, rfl, rfl⟩
    cases todo with
    | nil => cases e
    | cons r todo =>
      rw [List.map_cons, List.cons.injEq] at e
      obtain ⟨rfl, rfl⟩ := e
      have hlen : (pshA done x).length ≤ done.length := by unfold pshA; rw [List.length_map]; exact List.length_filter_le _ _
      have hr : rs.length = done.length + (todo.length + 1) := by rw [er]; simp
      refine ⟨_, by simp [Road.d]; rfl, ?_⟩
      refine Nx.of (e := [some (.val (netD n rs)), some (.val (.int s)), some (.loc 0), some (.loc 1), some (.val (.int (x.c : Nat))), some (.val (.int (x.t : Nat))), some (.val (.int (x.p : Nat))), some (.val (.int r.one)), some (.val (.int r.other)), some (.val (.int r.cost)), some (.val (.int r.time)), y11]) (h := [A, .lst ((B ++ pshA (done ++ [r]) x).map trD)]) ?_ ⟨done ++ [r], todo, _, _, _, _, _, by rw [er]; simp, rfl, rfl, rfl⟩
      by_cases q : r.one = x.p
      · have ea := v_appO (n := 1) (h := [A, .lst ((B ++ pshA done x).map trD)]) (d := trD ⟨x.c + r.cost, x.t + r.time, r.other⟩) (ds := (B ++ pshA done x).map trD) rfl (by simp; omega)
        have ep : pshA (done ++ [r]) x = pshA done x ++ [⟨x.c + r.cost, x.t + r.time, r.other⟩] := by simp [pshA, q]
        have ei : (r.one : Int) = x.p := by omega
        have et : (tV (cBin gEq (eVar 7) (eVar 6))) [some (.val (netD n rs)), some (.val (.int s)), some (.loc 0), some (.loc 1), some (.val (.int (x.c : Nat))), some (.val (.int (x.t : Nat))), some (.val (.int (x.p : Nat))), some (.val (.int r.one)), some (.val (.int r.other)), some (.val (.int r.cost)), some (.val (.int r.time)), y11] [A, .lst ((B ++ pshA done x).map trD)] = .ok true [A, .lst ((B ++ pshA done x).map trD)] := by simp [ei]
        have eh : [A, Ob.lst ((B ++ pshA done x).map trD)].set 1 (.lst ((B ++ pshA done x).map trD ++ [trD ⟨x.c + r.cost, x.t + r.time, r.other⟩])) = [A, .lst ((B ++ pshA (done ++ [r]) x).map trD)] := by
          rw [ep]
          simp
        rw [eh] at ea
        unfold l__law_pairs_1
        rw [v_sif, et, v_fl, if_pos rfl]
        exact v_expMt (s := .loc 1) (ss := [.val (trD ⟨x.c + r.cost, x.t + r.time, r.other⟩)]) (ds := (B ++ pshA done x).map trD) (by simp) (by simp) (by simp [line_s, trD]) ea
      · have ep : pshA (done ++ [r]) x = pshA done x := by simp [pshA, q]
        have ei : ¬ (r.one : Int) = x.p := by omega
        unfold l__law_pairs_1
        rw [ep]
        simp [ei]
  · rintro _ _ ⟨done, todo, y7, y8, y9, y10, y11, er, e, rfl, rfl⟩
    cases todo with
    | cons r todo => cases e
    | nil =>
      rw [List.append_nil] at er
      rw [er]
      exact ⟨_, _, _, _, _, rfl, rfl⟩
theorem lp_turn {n s : Nat} {rs : List Road} {F : Ff} {b : Lb} {B : List Lb} {y4 y5 y6 y7 y8 y9 y10 y11 : Option Sl} (hn : NetOk n rs) (i : Inv n F (b :: B)) (hm : mu n F (b :: B) ≤ 310000) :
    ∃ (x : Lb) (B' : List Lb), (b :: B).Perm (x :: B') ∧ (∀ y ∈ B', x.le y) ∧ Nx (l__law_pairs_2 [some (.val (netD n rs)), some (.val (.int s)), some (.loc 0), some (.loc 1), y4, y5, y6, y7, y8, y9, y10, y11] [.lls (ffL n F), .lst ((b :: B).map trD)]) fun e h => ∃ y4 y5 y6 y7 y8 y9 y10 y11 : Option Sl, e = [some (.val (netD n rs)), some (.val (.int s)), some (.loc 0), some (.loc 1), y4, y5, y6, y7, y8, y9, y10, y11] ∧ h = [.lls (ffL n (stF F x)), .lst ((B' ++ psh rs F x).map trD)] := by
  obtain ⟨x, mx, ex, hx⟩ := min_tr b B
  obtain ⟨B', eB, pB⟩ := rem_tr mx
  have le : ∀ y ∈ B', x.le y := fun y m => hx y (pB.mem_iff.mpr (List.mem_cons_of_mem _ m))
  have i' := i.perm pB
  obtain ⟨_, hp⟩ := i'.hist x List.mem_cons_self
  have hl := hn.len
  have hBl : B'.length ≤ 310000 := by
    have := pB.length_eq
    unfold mu at hm
    simp at this hm
    omega
  refine ⟨x, B', pB, le, ?_⟩
  unfold l__law_pairs_2
  refine Nx.seqEq (e1 := [some (.val (netD n rs)), some (.val (.int s)), some (.loc 0), some (.loc 1), some (.val (.int (x.c : Nat))), some (.val (.int (x.t : Nat))), some (.val (.int (x.p : Nat))), y7, y8, y9, y10, y11]) (h1 := [.lls (ffL n F), .lst ((b :: B).map trD)]) ?_ ?_
  · have := v_minTr (n := 1) (x := b) (xs := B) (h := [.lls (ffL n F), .lst ((b :: B).map trD)]) rfl
    rw [ex] at this
    simp only [v_asg, v_cb, v_acons, v_anil, v_var, List.getElem?_cons_zero, List.getElem?_cons_succ, v_slot, v_bind, this, v_give, v_fl, trD, v_asg2, v_putsC, v_putsN]
    rfl
  refine Nx.seqEq (e1 := [some (.val (netD n rs)), some (.val (.int s)), some (.loc 0), some (.loc 1), some (.val (.int (x.c : Nat))), some (.val (.int (x.t : Nat))), some (.val (.int (x.p : Nat))), y7, y8, y9, y10, y11]) (h1 := [.lls (ffL n F), .lst (B'.map trD)]) ?_ ?_
  · have er := v_remove (n := 1) (h := [.lls (ffL n F), .lst ((b :: B).map trD)]) (ds := (b :: B).map trD) (d := trD x) rfl (shp_listB lay_tr (by decide)) (by unfold shp SeqAt.shaped; simp [trD, PyData.canLay0, PyData.canLayAll0, PyData.depth, PyData.depthAll]) (List.any_eq_true.mpr ⟨trD x, List.mem_map_of_mem mx, by rw [eqv_tr]; exact decide_eq_true rfl⟩)
    rw [eB] at er
    exact v_expMt (s := .loc 1) (ss := [.val (trD x)]) (ds := (b :: B).map trD) (by simp) (by simp) (by simp [line_s, trD]) er
  have ec : ∀ y8 y9 y10 y11 : Option Sl, compSI (.nm 7) (tAn (tV (cBin (gI fLe) (cBin gIx (eVar 7) (eK (.int 0))) (eVar 4))) (tV (cBin (gI fLe) (cBin gIx (eVar 7) (eK (.int 1))) (eVar 5)))) (eVar 7) [some (.val (netD n rs)), some (.val (.int s)), some (.loc 0), some (.loc 1), some (.val (.int (x.c : Nat))), some (.val (.int (x.t : Nat))), some (.val (.int (x.p : Nat))), none, y8, y9, y10, y11] (.inn 0 x.p) [.lls (ffL n F), .lst (B'.map trD)] = .ok (((F x.p).filter fun y => decide (y.1 ≤ x.c) && decide (y.2 ≤ x.t)).map ctD) [.lls (ffL n F), .lst (B'.map trD)] := by
    intro y8 y9 y10 y11
    refine compSI_map (dd := ctD) (E := fun y => [some (.val (netD n rs)), some (.val (.int s)), some (.loc 0), some (.loc 1), some (.val (.int (x.c : Nat))), some (.val (.int (x.t : Nat))), some (.val (.int (x.p : Nat))), some (.val (ctD y)), y8, y9, y10, y11]) (fun z _ => by simp) (fun z _ => ?_) (fun z _ _ => by simp) ?_ (Nat.le_trans (i.len x.p) (by decide))
    · simp [ctD]
      by_cases q : z.1 ≤ x.c <;> simp [q]
    · show (ffL n F)[x.p]? = _
      exact rowsL_get hp
  have hsh : shp (.list (((F x.p).filter fun y => decide (y.1 ≤ x.c) && decide (y.2 ≤ x.t)).map ctD)) = true := shp_listB lay_ct (by decide)
  have hin := v_innAt (k := 0) (p := x.p) (h := [.lls (ffL n F), .lst (B'.map trD)]) (dss := ffL n F) rfl (by unfold ffL; rw [rowsL_len]; exact hp)
  have hac : acc F x = ((F x.p).filter fun y => decide (y.1 ≤ x.c) && decide (y.2 ≤ x.t)).isEmpty := by
    unfold acc
    rw [Bool.eq_iff_iff, List.all_eq_true, List.isEmpty_iff, List.filter_eq_nil_iff]
    simp
    exact ⟨fun h a b m q => (h a b m).resolve_left (by omega), fun h a b m => by
      by_cases q : a ≤ x.c
      · exact .inr (h a b m q)
      · exact .inl (by omega)⟩
  have etest : (tV (cBin gEq (eCompI (eIxI (eVar 2) (eVar 6)) (.nm 7) [7] (tAn (tV (cBin (gI fLe) (cBin gIx (eVar 7) (eK (.int 0))) (eVar 4))) (tV (cBin (gI fLe) (cBin gIx (eVar 7) (eK (.int 1))) (eVar 5)))) (eVar 7)) (eLst aNil))) [some (.val (netD n rs)), some (.val (.int s)), some (.loc 0), some (.loc 1), some (.val (.int (x.c : Nat))), some (.val (.int (x.t : Nat))), some (.val (.int (x.p : Nat))), y7, y8, y9, y10, y11] [.lls (ffL n F), .lst (B'.map trD)] = .ok (acc F x) [.lls (ffL n F), .lst (B'.map trD)] := by
    simp only [v_tv, v_tno, v_tan, v_tor, v_tt, v_bin, v_un, v_cb, v_eIxI, v_var, v_k, List.getElem?_cons_zero, List.getElem?_cons_succ, v_slot, v_bind, v_ixIs, v_wipe, v_wipe0, List.set_cons_zero, List.set_cons_succ, v_lst, v_tup, v_acons, v_anil, v_valsN, v_valsC, Option.map_some, Option.bind_some, List.length_nil, List.length_cons, v_give, v_truth, v_comp, v_src, v_seqL, v_seqT, v_fl, v_sif, v_set, v_ret, v_exp, v_asg, v_asg2, v_putN, v_putT, v_putsC, v_putsN, v_par, v_par1, v_call, v_gI, v_fAdd, v_fSub, v_fLt, v_fLe, v_fGt, v_fGe, v_ix, v_ix1, v_itT, v_itL, v_itO, v_itI, v_liL, v_liO, v_liI, v_obL, v_at0, v_at1, v_at2, v_at3, v_atC, v_negI, v_if, v_not, v_notB, v_chain, v_chainO, v_len, v_tuple, v_list, v_eqI, v_neI, v_compIv, hin, ec, line_s (Nat.zero_le 4), v_eqNv hsh]
    rw [hac, List.isEmpty_map]
  by_cases ha : acc F x = true
  · rw [ha] at etest
    refine Nx.if_t etest ?_
    rw [psh_acc ha, show stF F x = addF F x by unfold stF; rw [if_pos ha]]
    refine Nx.seqEq (e1 := [some (.val (netD n rs)), some (.val (.int s)), some (.loc 0), some (.loc 1), some (.val (.int (x.c : Nat))), some (.val (.int (x.t : Nat))), some (.val (.int (x.p : Nat))), y7, y8, y9, y10, y11]) (h1 := [.lls (ffL n (addF F x)), .lst (B'.map trD)]) ?_ ?_
    · have ea := v_appI (n := 0) (i := x.p) (h := [.lls (ffL n F), .lst (B'.map trD)]) (d := ctD (x.c, x.t)) (ds := (F x.p).map ctD) (dss := ffL n F) rfl (rowsL_get hp) (by rw [List.length_map]; have := i.len x.p; omega)
      rw [ffL_set hp] at ea
      exact v_expMt (s := .inn 0 x.p) (ss := [.val (ctD (x.c, x.t))]) (ds := (F x.p).map ctD) (by simp [hin]) (rowsL_get hp) (by simp [line_s, ctD]) ea
    exact (lp_for (by omega)).mono fun e h ⟨y7, y8, y9, y10, y11, w1, w2⟩ => ⟨_, _, _, _, _, _, _, _, w1, w2⟩
  · have ha' : acc F x = false := by simpa using ha
    rw [ha'] at etest
    refine Nx.if_f etest ?_
    have e2 : psh rs F x = [] := by unfold psh; rw [if_neg ha]
    rw [e2, List.append_nil, show stF F x = F by unfold stF; rw [if_neg ha]]
    exact ⟨_, _, rfl, _, _, _, _, _, _, _, _, rfl, rfl⟩
theorem fence_out {n : Nat} {F : Ff} {tg : Nat} {env : En} {h : Hs} {E : Nat → En} (hn : n ≤ 1000) (hE : ∀ z : Nat, Tg.put (.nm tg) (.list ((F z).map ctD)) env = some (E z)) (hf : ∀ z : Nat, (cCB gTuple (aCons (eVar tg) aNil)) (E z) h = .ok (.val (.tuple ((F z).map ctD))) h) :
    compL (.nm tg) tTrue (cCB gTuple (aCons (eVar tg) aNil)) env ((ffL n F).map .list) [] h = .ok ((List.range n).map fun p => .tuple ((F p).map ctD)) h := by
  have := comp_map (tg := .nm tg) (c := tTrue) (f := cCB gTuple (aCons (eVar tg) aNil)) (env := env) (h := h) (E := E) (dd := fun p : Nat => PyData.list ((F p).map ctD)) (w := fun p : Nat => PyData.tuple ((F p).map ctD)) hE (fun z => by simp) (List.range n) [] (fun z _ => hf z) (by simp; omega)
  rw [show (ffL n F).map PyData.list = (List.range n).map fun p : Nat => PyData.list ((F p).map ctD) by unfold ffL rowsL; rw [List.map_map]; rfl]
  simpa using this
theorem e_lawPairs {n s : Nat} {rs : List Road} {G : Ff} (hn : NetOk n rs) (hs : s < n) (r : Run rs Fe [⟨0, 0, s⟩] G) : m__law_pairs [netD n rs, .int s] [] = .ok (fenceD n G) [] := by
  have h2 := hn.n2
  unfold m__law_pairs
  refine run_eq ?_
  have e0 : mkEnv [false, false] [netD n rs, .int s] 0 ++ List.replicate 10 none = [some (.val (netD n rs)), some (.val (.int s)), none, none, none, none, none, none, none, none, none, none] := rfl
  rw [e0]
  unfold b__law_pairs
  apply Out.seqEq (e1 := [some (.val (netD n rs)), some (.val (.int s)), some (.loc 0), some (.loc 1), none, none, none, none, none, none, none, none]) (h1 := [.lls (ffL n Fe), .lst ([⟨0, 0, s⟩].map trD)])
  · have ec := v_compE (src := srcRng1 (aCons (cBin gIx (eVar 0) (eK (.int 0))) aNil)) (env := [some (.val (netD n rs)), some (.val (.int s)), none, none, none, none, none, none, none, none, none, none]) (h := []) (h1 := []) (ds := upTo 0 n) (by simp [netD]; rw [v_rng1 (by omega) (by omega)]; simp) (by simp [upTo]; omega)
    have er : List.replicate (upTo 0 n).length ([] : List PyData) = ffL n Fe := by
      rw [show (upTo 0 n).length = n by simp [upTo], rowsL_rep]
      rfl
    rw [er] at ec
    simp only [v_par, v_acons, ec, v_bind]
    simp [line_s, v_new1, trD]
  refine Out.seq (A := fun e h => ∃ y4 y5 y6 y7 y8 y9 y10 y11 : Option Sl, e = [some (.val (netD n rs)), some (.val (.int s)), some (.loc 0), some (.loc 1), y4, y5, y6, y7, y8, y9, y10, y11] ∧ h = [.lls (ffL n G), .lst []]) ?_ ?_
  · refine Out.while_ (mu n Fe [⟨0, 0, s⟩]) (by have := mu0 (n := n) (s := s) h2; omega) (I := fun m e h => ∃ (F : Ff) (B : List Lb) (y4 y5 y6 y7 y8 y9 y10 y11 : Option Sl), Inv n F B ∧ Run rs F B G ∧ m = mu n F B ∧ m ≤ 310000 ∧ e = [some (.val (netD n rs)), some (.val (.int s)), some (.loc 0), some (.loc 1), y4, y5, y6, y7, y8, y9, y10, y11] ∧ h = [.lls (ffL n F), .lst (B.map trD)]) ⟨Fe, _, _, _, _, _, _, _, _, _, inv0 hs, r, rfl, mu0 h2, rfl, rfl⟩ ?_
    rintro m _ _ ⟨F, B, y4, y5, y6, y7, y8, y9, y10, y11, i, r, rfl, hm, rfl, rfl⟩
    have ne := v_neNilO (k := 1) (h := [.lls (ffL n F), .lst (B.map trD)]) (ds := B.map trD) rfl (shp_listB lay_tr (by decide))
    cases B with
    | nil =>
      refine .inl ⟨by simp [line_s] at ne ⊢; simp [ne], _, _, _, _, _, _, _, _, rfl, ?_⟩
      rw [r.nil]
      rfl
    | cons b B =>
      obtain ⟨x, B', p, le, w⟩ := lp_turn (s := s) hn i hm
      refine .inr ⟨by simp [line_s] at ne ⊢; simp [ne], ?_⟩
      obtain ⟨j, l⟩ := (i.perm p).step hn le
      rw [← mu_perm p] at l
      refine ⟨_, l, Out.of_nx (w.mono ?_)⟩
      rintro _ _ ⟨y4, y5, y6, y7, y8, y9, y10, y11, rfl, rfl⟩
      exact ⟨_, _, _, _, _, _, _, _, _, _, j, (r.perm p.symm).next le, rfl, by omega, rfl, rfl⟩
  · rintro _ _ ⟨y4, y5, y6, y7, y8, y9, y10, y11, rfl, rfl⟩
    refine Out.ret (s := .val (fenceD n G)) (h := [.gone, .lst []]) ?_ (by rw [v_outV]; rfl)
    obtain ⟨e', ef, y4, y5, y6, y7, y8, y9, y10, y11, rfl⟩ : ∃ e' : En, frz? 0 2 [some (.val (netD n rs)), some (.val (.int s)), some (.loc 0), some (.loc 1), y4, y5, y6, y7, y8, y9, y10, y11] [.lls (ffL n G), .lst []] = some (e', [.gone, .lst []]) ∧ ∃ y4 y5 y6 y7 y8 y9 y10 y11 : Option Sl, e' = [some (.val (netD n rs)), some (.val (.int s)), some (.val (.list ((ffL n G).map .list))), some (.loc 1), y4, y5, y6, y7, y8, y9, y10, y11] := ⟨_, rfl, _, _, _, _, _, _, _, _, rfl⟩
    unfold sFrz
    rw [ef]
    dsimp only
    have eo := fence_out (n := n) (F := G) (tg := 11) (env := [some (.val (netD n rs)), some (.val (.int s)), some (.val (.list ((ffL n G).map .list))), some (.loc 1), y4, y5, y6, y7, y8, y9, y10, none]) (h := [.gone, .lst []]) (E := fun p => [some (.val (netD n rs)), some (.val (.int s)), some (.val (.list ((ffL n G).map .list))), some (.loc 1), y4, y5, y6, y7, y8, y9, y10, some (.val (.list ((G p).map ctD)))]) (by omega) (fun z => by simp) (fun z => by simp)
    simp only [v_ret, v_cb, v_acons, v_anil, v_comp, v_src, v_var, List.getElem?_cons_zero, List.getElem?_cons_succ, v_slot, v_bind, v_seqL, v_wipe0, v_wipe, List.set_cons_zero, List.set_cons_succ, eo]
    rfl
end FL

namespace FL
open PySem PySem.Spec PyProof.Rows L2 PySem.W
/-! ### pairs_from: labels by costs -/
def tpD (x : Lb) : PyData := .tuple [.int (x.t : Nat), .int (x.p : Nat)]
def leT (a b : Lb) : Bool := decide (a.t < b.t ∨ (a.t = b.t ∧ a.p ≤ b.p))
theorem lt_tp (a b : Lb) : dataLt (tpD a) (tpD b) = decide (a.t < b.t ∨ (a.t = b.t ∧ a.p < b.p)) := by
  have := lt_pair (a.t, a.p) (b.t, b.p)
  exact this
theorem srt_tp (xs : List Lb) : srtD (xs.map tpD) = (xs.mergeSort leT).map tpD := by
  unfold srtD
  refine (List.map_mergeSort (r := leT) (s := dataLe false id) (f := tpD) (l := xs) fun a _ b _ => ?_).symm
  show leT a b = !dataLt (tpD b) (tpD a)
  rw [lt_tp]
  unfold leT
  rw [← decide_not, decide_eq_decide]
  omega
theorem sort_tpB (xs : List Lb) (hl : xs.length ≤ 16777216) : sortB (xs.map tpD) = true := by
  unfold sortB
  simp only [Bool.and_eq_true, List.all_eq_true, decide_eq_true_eq, Bool.not_eq_true', List.length_map]
  refine ⟨⟨⟨⟨fun d m e m' => ?_, fun d m => ?_⟩, fun d m => ?_⟩, fun d m => ?_⟩, hl⟩
  · obtain ⟨a, _, rfl⟩ := List.mem_map.mp m
    obtain ⟨b, _, rfl⟩ := List.mem_map.mp m'
    simp [tpD, alike, alikeAll]
  · obtain ⟨a, _, rfl⟩ := List.mem_map.mp m
    rfl
  · obtain ⟨a, _, rfl⟩ := List.mem_map.mp m
    simp [tpD, PyData.depth, PyData.depthAll]
  · obtain ⟨a, _, rfl⟩ := List.mem_map.mp m
    rfl
theorem srt_pw (xs : List Lb) : (xs.mergeSort leT).Pairwise fun a b => leT a b = true := List.pairwise_mergeSort (fun a b c h1 h2 => by
  unfold leT at *
  simp only [decide_eq_true_eq] at *
  omega) (fun a b => by
  unfold leT
  simp only [Bool.or_eq_true, decide_eq_true_eq]
  omega) xs
theorem lay_ct2 {xs : List (Nat × Nat)} : ∀ d ∈ xs.map ctD, d.canLay0 = true ∧ d.depth ≤ 1 := fun d m => by
  obtain ⟨x, _, rfl⟩ := List.mem_map.mp m
  simp [ctD, PyData.canLay0, PyData.canLayAll0, PyData.depth, PyData.depthAll]
def pshB (rs : List Road) (x : Lb) : List Lb := (rs.filter fun r => decide (r.one = x.p)).map fun r => ⟨x.c + r.cost, x.t + r.time, r.other⟩
theorem psh_accB {rs : List Road} {F : Ff} {x : Lb} (h : acc F x = true) : psh rs F x = pshB rs x := by unfold psh pshB; rw [if_pos h]
theorem ffL_setB {n : Nat} {F : Ff} {x : Lb} (h : x.p < n) : (ffL n F).set x.p ((F x.p).map ctD ++ [ctD (x.c, x.t)]) = ffL n (addF F x) := by
  unfold ffL
  rw [rowsL_set h]
  congr 1
  funext q
  unfold addF
  split
  · rename_i e
    subst e
    simp
  · rfl
/-! ### the dict of what waits -/
theorem look_app {ks : List (Key × Nat)} {k k' : Key} {i : Nat} : lookN (ks ++ [(k, i)]) k' = (lookN ks k').or (if k = k' then some i else none) := by
  unfold lookN
  rw [List.find?_append]
  cases ks.find? fun r => decide (r.1 = k') with
  | some r => rfl
  | none =>
    by_cases e : k = k' <;> simp [e]
theorem look_drop {k k' : Key} : ∀ {ks : List (Key × Nat)}, lookN (dropN ks k) k' = if k' = k then none else lookN ks k'
  | [] => by simp [lookN, dropN]
  | r :: ks => by
    have ih := look_drop (k := k) (k' := k') (ks := ks)
    unfold lookN dropN at *
    by_cases e : r.1 = k
    · rw [List.filter_cons, if_neg (by simp [e]), ih, List.find?_cons]
      by_cases e2 : k' = k
      · rw [if_pos e2, if_pos e2]
      · have : ¬ r.1 = k' := fun z => e2 (by rw [← z, e])
        rw [if_neg e2, if_neg e2]
        simp [this]
    · rw [List.filter_cons, if_pos (by simp [e]), List.find?_cons, List.find?_cons]
      by_cases e2 : r.1 = k'
      · have : ¬ k' = k := fun z => e (by rw [e2, z])
        simp [e2, this]
      · simp [e2]
        simpa using ih
theorem look_memK {ks : List (Key × Nat)} {k : Key} {i : Nat} (e : lookN ks k = some i) : (k, i) ∈ ks := by
  unfold lookN at e
  obtain ⟨r, e1, e2⟩ := Option.map_eq_some_iff.mp e
  have := List.find?_some e1
  have h1 : r.1 = k := by simpa using this
  have m := List.mem_of_find?_eq_some e1
  rw [← h1, ← e2]
  exact m
theorem look_none {ks : List (Key × Nat)} {k : Key} (e : lookN ks k = none) : ∀ r ∈ ks, r.1 ≠ k := fun r m z => by
  unfold lookN at e
  rw [Option.map_eq_none_iff, List.find?_eq_none] at e
  exact e r m (by simp [z])
def atC (B : List Lb) (k : Nat) : List Lb := B.filter fun x => decide (x.c = k)
structure HasW (dss : List (List PyData)) (ks : List (Key × Nat)) (c : Nat) (B : List Lb) : Prop where
  at_ : ∀ k : Nat, (∃ i, lookN ks (.inl (k : Int)) = some i ∧ dss[i]? = some ((atC B k).map tpD)) ∨ (lookN ks (.inl (k : Int)) = none ∧ atC B k = [])
  inj : ∀ k k' i, lookN ks k = some i → lookN ks k' = some i → k = k'
  key : ∀ r ∈ ks, ∃ k : Nat, r.1 = .inl (k : Int) ∧ c ≤ k ∧ k ≤ 1100
  nd : (ks.map (·.1)).Nodup
theorem keyI {a b : Nat} (h : (Sum.inl (a : Int) : Key) = .inl (b : Int)) : a = b := by
  have := Sum.inl.inj h
  omega
theorem HasW.len {dss : List (List PyData)} {ks : List (Key × Nat)} {c : Nat} {B : List Lb} (h : HasW dss ks c B) : ks.length ≤ 1101 := by
  have key : ∀ ks : List (Key × Nat), (∀ r ∈ ks, ∃ k : Nat, r.1 = .inl (k : Int) ∧ k ≤ 1100) → (ks.map (·.1)).Nodup → ∃ L : List Nat, L.length = ks.length ∧ L.Nodup ∧ (∀ q ∈ L, q < 1101) ∧ ∀ q ∈ L, (Sum.inl (q : Int) : Key) ∈ ks.map (·.1) := by
    intro ks
    induction ks with
    | nil => exact fun _ _ => ⟨[], rfl, List.nodup_nil, by simp, by simp⟩
    | cons r ks ih =>
      intro h nd
      rw [List.map_cons, List.nodup_cons] at nd
      obtain ⟨L, h1, h2, h3, h4⟩ := ih (fun x m => h x (List.mem_cons_of_mem _ m)) nd.2
      obtain ⟨k, e, hk⟩ := h r List.mem_cons_self
      refine ⟨k :: L, by simp [h1], List.nodup_cons.mpr ⟨fun z => nd.1 (by rw [e]; exact h4 k z), h2⟩, fun q m => ?_, fun q m => ?_⟩
      · rcases List.mem_cons.mp m with rfl | m
        · omega
        · exact h3 q m
      · rcases List.mem_cons.mp m with rfl | m
        · rw [List.map_cons, e]; exact List.mem_cons_self
        · exact List.mem_cons_of_mem _ (h4 q m)
  obtain ⟨L, h1, h2, h3, _⟩ := key ks (fun r m => let ⟨k, e, _, hk⟩ := h.key r m; ⟨k, e, hk⟩) h.nd
  rw [← h1]
  exact nodup_lt h2 h3
theorem HasW.lt {dss : List (List PyData)} {ks : List (Key × Nat)} {c : Nat} {B : List Lb} (h : HasW dss ks c B) {k : Key} {i : Nat} (e : lookN ks k = some i) : i < dss.length := by
  obtain ⟨q, e1, _⟩ := h.key _ (look_memK e)
  have e1 : k = .inl (q : Int) := e1
  subst e1
  rcases h.at_ q with ⟨j, e2, e3⟩ | ⟨e2, _⟩
  · rw [e] at e2
    cases e2
    exact (List.getElem?_eq_some_iff.mp e3).1
  · rw [e] at e2; cases e2
theorem atC_app {B : List Lb} {x : Lb} {k : Nat} : atC (B ++ [x]) k = atC B k ++ if x.c = k then [x] else [] := by
  unfold atC
  rw [List.filter_append]
  congr 1
  by_cases e : x.c = k <;> simp [e]
theorem HasW.old {dss : List (List PyData)} {ks : List (Key × Nat)} {c i : Nat} {B : List Lb} {x : Lb} (h : HasW dss ks c B) (e : lookN ks (.inl (x.c : Int)) = some i) : dss[i]? = some ((atC B x.c).map tpD) ∧ HasW (dss.set i ((atC B x.c).map tpD ++ [tpD x])) ks c (B ++ [x]) := by
  have hi := h.lt e
  have e0 : dss[i]? = some ((atC B x.c).map tpD) := by
    rcases h.at_ x.c with ⟨j, e2, e3⟩ | ⟨e2, _⟩
    · rw [e] at e2; cases e2; exact e3
    · rw [e] at e2; cases e2
  refine ⟨e0, fun k => ?_, h.inj, h.key, h.nd⟩
  rw [atC_app]
  by_cases q : x.c = k
  · subst q
    refine .inl ⟨i, e, ?_⟩
    rw [List.getElem?_set, if_pos rfl, if_pos hi, if_pos rfl, List.map_append]
    rfl
  · rw [if_neg q, List.append_nil]
    rcases h.at_ k with ⟨j, e2, e3⟩ | w
    · refine .inl ⟨j, e2, ?_⟩
      have : i ≠ j := fun z => q (keyI (h.inj _ _ _ e (by rw [z]; exact e2)))
      rw [List.getElem?_set_ne this]
      exact e3
    · exact .inr w
theorem HasW.new {dss : List (List PyData)} {ks : List (Key × Nat)} {c : Nat} {B : List Lb} {x : Lb} (h : HasW dss ks c B) (e : lookN ks (.inl (x.c : Int)) = none) (h1 : c ≤ x.c) (h2 : x.c ≤ 1100) : HasW ((dss ++ [[]]).set dss.length ([] ++ [tpD x])) (ks ++ [(.inl (x.c : Int), dss.length)]) c (B ++ [x]) := by
  have ha : atC B x.c = [] := by
    rcases h.at_ x.c with ⟨j, e2, e3⟩ | ⟨_, w⟩
    · rw [e] at e2; cases e2
    · exact w
  refine ⟨fun k => ?_, fun k k' i q1 q2 => ?_, fun r m => ?_, ?_⟩
  · rw [atC_app, look_app]
    by_cases q : x.c = k
    · subst q
      refine .inl ⟨dss.length, by rw [e, if_pos rfl]; rfl, ?_⟩
      rw [List.getElem?_set, if_pos rfl, if_pos (by simp), if_pos rfl, ha]
      rfl
    · have q' : ¬ (Sum.inl (x.c : Int) : Key) = .inl (k : Int) := fun z => q (keyI z)
      rw [if_neg q, List.append_nil, if_neg q', Option.or_none]
      rcases h.at_ k with ⟨j, e2, e3⟩ | w
      · have hj := h.lt e2
        refine .inl ⟨j, e2, ?_⟩
        rw [List.getElem?_set_ne (by omega), List.getElem?_append_left hj]
        exact e3
      · exact .inr w
  · rw [look_app] at q1 q2
    cases w1 : lookN ks k with
    | some a =>
      rw [w1] at q1
      have q1 : a = i := Option.some.inj q1
      subst q1
      have l1 := h.lt w1
      cases w2 : lookN ks k' with
      | some b =>
        rw [w2] at q2
        have q2 : b = a := Option.some.inj q2
        subst q2
        exact h.inj k k' b w1 w2
      | none =>
        rw [w2, Option.none_or] at q2
        split at q2
        · cases q2; omega
        · cases q2
    | none =>
      rw [w1, Option.none_or] at q1
      split at q1
      · rename_i z1
        cases q1
        cases w2 : lookN ks k' with
        | some b =>
          rw [w2] at q2
          have q2 : b = dss.length := Option.some.inj q2
          have := h.lt w2
          omega
        | none =>
          rw [w2, Option.none_or] at q2
          split at q2
          · rename_i z2
            rw [← z1, ← z2]
          · cases q2
      · cases q1
  · rcases List.mem_append.mp m with m | m
    · exact h.key r m
    · rw [List.mem_singleton.mp m]
      exact ⟨x.c, rfl, h1, h2⟩
  · rw [List.map_append, List.nodup_append]
    refine ⟨h.nd, by simp, fun a m b m2 z => ?_⟩
    obtain ⟨r, mr, rfl⟩ := List.mem_map.mp m
    have : b = .inl (x.c : Int) := by simpa using m2
    exact look_none e r mr (by rw [z, this])
theorem atC_ne {B : List Lb} {c k : Nat} (h : k ≠ c) : atC (B.filter fun x => !decide (x.c = c)) k = atC B k := by
  unfold atC
  rw [List.filter_filter]
  congr 1
  funext x
  by_cases e : x.c = k
  · have : ¬ x.c = c := fun z => h (by rw [← e, z])
    simp [e, h]
  · simp [e]
theorem atC_eq {B : List Lb} {c : Nat} : atC (B.filter fun x => !decide (x.c = c)) c = [] := by
  unfold atC
  rw [List.filter_filter, List.filter_eq_nil_iff]
  intro x _
  by_cases e : x.c = c <;> simp [e]
theorem HasW.pop {dss : List (List PyData)} {ks : List (Key × Nat)} {c : Nat} {B : List Lb} (h : HasW dss ks c B) : HasW dss (dropN ks (.inl (c : Int))) (c + 1) (B.filter fun x => !decide (x.c = c)) := by
  refine ⟨fun k => ?_, fun k k' i q1 q2 => ?_, fun r m => ?_, ?_⟩
  · rw [look_drop]
    by_cases q : k = c
    · subst q
      rw [if_pos rfl, atC_eq]
      exact .inr ⟨rfl, rfl⟩
    · rw [if_neg (fun z => q (keyI z)), atC_ne q]
      exact h.at_ k
  · rw [look_drop] at q1 q2
    split at q1
    · cases q1
    · split at q2
      · cases q2
      · exact h.inj k k' i q1 q2
  · obtain ⟨m1, m2⟩ := List.mem_filter.mp m
    obtain ⟨k, e, l1, l2⟩ := h.key r m1
    refine ⟨k, e, ?_, l2⟩
    have : k ≠ c := fun z => by
      subst z
      rw [e] at m2
      simp at m2
    omega
  · exact h.nd.sublist (List.Sublist.map _ List.filter_sublist)
theorem HasW.drop {dss : List (List PyData)} {ks : List (Key × Nat)} {c : Nat} {B : List Lb} (h : HasW dss ks c B) (e : lookN ks (.inl (c : Int)) = none) : dropN ks (.inl (c : Int)) = ks := by
  unfold dropN
  rw [List.filter_eq_self]
  intro r m
  simpa using look_none e r m
theorem pf_push {n s : Nat} {R : PyData} {x : Lb} {r : Road} {A : Ob} {B : List Lb} {dss : List (List PyData)} {ks : List (Key × Nat)} {y12 : Option Sl} (w : HasW dss ks (x.c + 1) B) (hB : B.length ≤ 1000000) (e1 : r.one = x.p) (c1 : 1 ≤ r.cost) (c2 : x.c + r.cost ≤ 1100) :
    ∃ dss' ks', HasW dss' ks' (x.c + 1) (B ++ [⟨x.c + r.cost, x.t + r.time, r.other⟩]) ∧ l_pairs_from_1 [some (.val (.int n)), some (.val (R)), some (.val (.int s)), some (.loc 0), some (.loc 1), some (.val (.int (x.c : Nat))), some (.val (.int (x.t : Nat))), some (.val (.int (x.p : Nat))), some (.val (.int r.one)), some (.val (.int r.other)), some (.val (.int r.cost)), some (.val (.int r.time)), y12] [A, .dil dss ks] = .next [some (.val (.int n)), some (.val (R)), some (.val (.int s)), some (.loc 0), some (.loc 1), some (.val (.int (x.c : Nat))), some (.val (.int (x.t : Nat))), some (.val (.int (x.p : Nat))), some (.val (.int r.one)), some (.val (.int r.other)), some (.val (.int r.cost)), some (.val (.int r.time)), y12] [A, .dil dss' ks'] := by
  have hl := w.len
  have ei : (r.one : Int) = x.p := by omega
  have ek : (x.c : Int) + r.cost = ((x.c + r.cost : Nat) : Int) := by omega
  unfold l_pairs_from_1
  rw [v_sif]
  have et : (tV (cBin gEq (eVar 8) (eVar 7))) [some (.val (.int n)), some (.val (R)), some (.val (.int s)), some (.loc 0), some (.loc 1), some (.val (.int (x.c : Nat))), some (.val (.int (x.t : Nat))), some (.val (.int (x.p : Nat))), some (.val (.int r.one)), some (.val (.int r.other)), some (.val (.int r.cost)), some (.val (.int r.time)), y12] [A, .dil dss ks] = .ok true [A, .dil dss ks] := by simp [ei]
  rw [et, v_fl, if_pos rfl]
  have ea : ∀ o, aCons (eTup (aCons (cBin gAdd (eVar 6) (eVar 11)) (aCons (eVar 9) aNil))) aNil [some (.val (.int n)), some (.val (R)), some (.val (.int s)), some (.loc 0), some (.loc 1), some (.val (.int (x.c : Nat))), some (.val (.int (x.t : Nat))), some (.val (.int (x.p : Nat))), some (.val (.int r.one)), some (.val (.int r.other)), some (.val (.int r.cost)), some (.val (.int r.time)), y12] o = .ok [.val (tpD ⟨x.c + r.cost, x.t + r.time, r.other⟩)] o := fun o => by
    simp [line_s, tpD]
  cases q : lookN ks (.inl ((x.c + r.cost : Nat) : Int)) with
  | some i =>
    obtain ⟨w1, w2⟩ := w.old (x := ⟨x.c + r.cost, x.t + r.time, r.other⟩) q
    refine ⟨_, _, w2, ?_⟩
    have es := v_setOld (w := 0) (n := 1) (h := [A, .dil dss ks]) rfl q (by omega)
    have ha : (atC B (x.c + r.cost)).length ≤ B.length := List.length_filter_le _ _
    refine v_expMt2 (d := .none) (s := .inn 1 i) (h1 := [A, .dil dss ks]) (ss := [.val (tpD ⟨x.c + r.cost, x.t + r.time, r.other⟩)]) (ds := (atC B (x.c + r.cost)).map tpD) ?_ ?_ (ea _) ?_
    · simp only [v_tv, v_tno, v_tan, v_tor, v_tt, v_bin, v_un, v_cb, v_eIxI, v_var, v_k, List.getElem?_cons_zero, List.getElem?_cons_succ, v_slot, v_bind, v_ixIs, v_wipe, v_wipe0, List.set_cons_zero, List.set_cons_succ, v_lst, v_tup, v_acons, v_anil, v_valsN, v_valsC, Option.map_some, Option.bind_some, List.length_nil, List.length_cons, v_give, v_truth, v_comp, v_src, v_seqL, v_seqT, v_fl, v_sif, v_set, v_ret, v_exp, v_asg, v_asg2, v_putN, v_putT, v_putsC, v_putsN, v_par, v_par1, v_call, v_gI, v_fAdd, v_fSub, v_fLt, v_fLe, v_fGt, v_fGe, v_ix, v_ix1, v_itT, v_itL, v_itO, v_itI, v_liL, v_liO, v_liI, v_obL, v_at0, v_at1, v_at2, v_at3, v_atC, v_negI, v_if, v_not, v_notB, v_chain, v_chainO, v_len, v_tuple, v_list, v_eqI, v_neI, v_eSetL, v_dilS, v_dil1, v_bang, v_addI, ek, es]
    · rw [v_liI, v_inn1 rfl]
      exact w1
    · exact v_appD (n := 1) (i := i) (h := [A, .dil dss ks]) rfl w1 (by rw [List.length_map]; show (atC B (x.c + r.cost)).length < _; omega)
  | none =>
    refine ⟨_, _, w.new (x := ⟨x.c + r.cost, x.t + r.time, r.other⟩) q (by show x.c + 1 ≤ x.c + r.cost; omega) c2, ?_⟩
    have es := v_setNew (w := 0) (n := 1) (h := [A, .dil dss ks]) rfl q (by omega) (by omega)
    refine v_expMt2 (d := .none) (s := .inn 1 dss.length) (h1 := [A, .dil (dss ++ [[]]) (ks ++ [(.inl ((x.c + r.cost : Nat) : Int), dss.length)])]) (ss := [.val (tpD ⟨x.c + r.cost, x.t + r.time, r.other⟩)]) (ds := []) ?_ ?_ (ea _) ?_
    · simp only [v_tv, v_tno, v_tan, v_tor, v_tt, v_bin, v_un, v_cb, v_eIxI, v_var, v_k, List.getElem?_cons_zero, List.getElem?_cons_succ, v_slot, v_bind, v_ixIs, v_wipe, v_wipe0, List.set_cons_zero, List.set_cons_succ, v_lst, v_tup, v_acons, v_anil, v_valsN, v_valsC, Option.map_some, Option.bind_some, List.length_nil, List.length_cons, v_give, v_truth, v_comp, v_src, v_seqL, v_seqT, v_fl, v_sif, v_set, v_ret, v_exp, v_asg, v_asg2, v_putN, v_putT, v_putsC, v_putsN, v_par, v_par1, v_call, v_gI, v_fAdd, v_fSub, v_fLt, v_fLe, v_fGt, v_fGe, v_ix, v_ix1, v_itT, v_itL, v_itO, v_itI, v_liL, v_liO, v_liI, v_obL, v_at0, v_at1, v_at2, v_at3, v_atC, v_negI, v_if, v_not, v_notB, v_chain, v_chainO, v_len, v_tuple, v_list, v_eqI, v_neI, v_eSetL, v_dilS, v_dil1, v_bang, v_addI, ek, es]
    · rw [v_liI, v_inn1 rfl]
      simp
    · exact v_appD (n := 1) (i := dss.length) (h := [A, .dil (dss ++ [[]]) (ks ++ [(.inl ((x.c + r.cost : Nat) : Int), dss.length)])]) (ds := []) rfl (by simp) (by simp)
theorem pf_for {n s : Nat} {R : PyData} {rs : List Road} {x : Lb} {A : Ob} {B : List Lb} {dss : List (List PyData)} {ks : List (Key × Nat)} {y8 y9 y10 y11 y12 : Option Sl} (hR : ∀ h, seq? (.val R) h = .ok (rs.map Road.d) h) (w : HasW dss ks (x.c + 1) B) (hl : B.length + rs.length ≤ 1000000) (hc : ∀ r ∈ rs, 1 ≤ r.cost ∧ x.c + r.cost ≤ 1100) :
    Nx (sFor (srcSeq (eVar 1)) (.tp [(.nm 8), (.nm 9), (.nm 10), (.nm 11)]) l_pairs_from_1 [some (.val (.int n)), some (.val (R)), some (.val (.int s)), some (.loc 0), some (.loc 1), some (.val (.int (x.c : Nat))), some (.val (.int (x.t : Nat))), some (.val (.int (x.p : Nat))), y8, y9, y10, y11, y12] [A, .dil dss ks]) fun e h => ∃ (dss' : List (List PyData)) (ks' : List (Key × Nat)) (y8 y9 y10 y11 y12 : Option Sl), HasW dss' ks' (x.c + 1) (B ++ pshB rs x) ∧ e = [some (.val (.int n)), some (.val (R)), some (.val (.int s)), some (.loc 0), some (.loc 1), some (.val (.int (x.c : Nat))), some (.val (.int (x.t : Nat))), some (.val (.int (x.p : Nat))), y8, y9, y10, y11, y12] ∧ h = [A, .dil dss' ks'] := by
  refine (Nx.forR (ds := rs.map Road.d) (h1 := [A, .dil dss ks]) (I := fun rest e h => ∃ (done todo : List Road) (dss' : List (List PyData)) (ks' : List (Key × Nat)) (y8 y9 y10 y11 y12 : Option Sl), rs = done ++ todo ∧ rest = todo.map Road.d ∧ HasW dss' ks' (x.c + 1) (B ++ pshB done x) ∧ e = [some (.val (.int n)), some (.val (R)), some (.val (.int s)), some (.loc 0), some (.loc 1), some (.val (.int (x.c : Nat))), some (.val (.int (x.t : Nat))), some (.val (.int (x.p : Nat))), y8, y9, y10, y11, y12] ∧ h = [A, .dil dss' ks']) (by simp [hR]) ⟨[], rs, dss, ks, _, _, _, _, _, rfl, rfl, by simpa [pshB] using w, rfl, rfl⟩ ?_).mono ?_
  · rintro d rest _ _ ⟨done, todo, dss, ks, y8, y9, y10, y11, y12, er, e, w, rfl, rfl⟩
    cases todo with
    | nil => cases e
    | cons r todo =>
      rw [List.map_cons, List.cons.injEq] at e
      obtain ⟨rfl, rfl⟩ := e
      have hlen : (pshB done x).length ≤ done.length := by unfold pshB; rw [List.length_map]; exact List.length_filter_le _ _
      have hr : rs.length = done.length + (todo.length + 1) := by rw [er]; simp
      obtain ⟨c1, c2⟩ := hc r (by rw [er]; simp)
      refine ⟨_, by simp [Road.d]; rfl, ?_⟩
      by_cases q : r.one = x.p
      · obtain ⟨dss', ks', w', e'⟩ := pf_push (n := n) (s := s) (R := R) (A := A) (y12 := y12) w (by rw [List.length_append]; omega) q c1 c2
        refine Nx.of e' ⟨done ++ [r], todo, dss', ks', _, _, _, _, _, by rw [er]; simp, rfl, ?_, rfl, rfl⟩
        have ep : pshB (done ++ [r]) x = pshB done x ++ [⟨x.c + r.cost, x.t + r.time, r.other⟩] := by simp [pshB, q]
        rw [ep, ← List.append_assoc]
        exact w'
      · have ep : pshB (done ++ [r]) x = pshB done x := by simp [pshB, q]
        have ei : ¬ (r.one : Int) = x.p := by omega
        refine Nx.of (e := [some (.val (.int n)), some (.val (R)), some (.val (.int s)), some (.loc 0), some (.loc 1), some (.val (.int (x.c : Nat))), some (.val (.int (x.t : Nat))), some (.val (.int (x.p : Nat))), some (.val (.int r.one)), some (.val (.int r.other)), some (.val (.int r.cost)), some (.val (.int r.time)), y12]) (h := [A, .dil dss ks]) (by unfold l_pairs_from_1; simp [ei]) ⟨done ++ [r], todo, dss, ks, _, _, _, _, _, by rw [er]; simp, rfl, by rw [ep]; exact w, rfl, rfl⟩
  · rintro _ _ ⟨done, todo, dss, ks, y8, y9, y10, y11, y12, er, e, w, rfl, rfl⟩
    cases todo with
    | cons r todo => cases e
    | nil =>
      rw [List.append_nil] at er
      rw [er]
      exact ⟨dss, ks, _, _, _, _, _, w, rfl, rfl⟩
theorem last_fall {l : List (Nat × Nat)} {t : Nat} (h : l.Pairwise fun a b => a.1 < b.1 ∧ b.2 < a.2) (y : Nat × Nat) (e : l.getLast? = some y) : (∀ z ∈ l, t < z.2) ↔ t < y.2 := by
  obtain ⟨ini, rfl⟩ : ∃ ini, l = ini ++ [y] := by
    obtain ⟨ini, q⟩ := List.getLast?_eq_some_iff.mp e
    exact ⟨ini, q⟩
  rw [List.pairwise_append] at h
  constructor
  · exact fun w => w y (by simp)
  · intro w z m
    rcases List.mem_append.mp m with m | m
    · have := h.2.2 z m y (by simp)
      omega
    · rw [List.mem_singleton.mp m]
      exact w
theorem at_last {ds : List PyData} {d : PyData} (e : ds.getLast? = some d) : atI ds (-1) = some d := by
  obtain ⟨ini, rfl⟩ := List.getLast?_eq_some_iff.mp e
  unfold atI ixN
  rw [if_neg (by decide)]
  have h1 : (0 : Int) ≤ -1 + ((ini ++ [d]).length : Nat) := by simp; omega
  rw [if_pos (by simp; omega)]
  have h2 : (-1 + ((ini ++ [d]).length : Nat) : Int).toNat = ini.length := by simp; omega
  simp
  rw [show ((-1 : Int) + ((ini.length : Int) + 1)).toNat = ini.length by omega]
  simp
theorem pf_turn {n s : Nat} {R : PyData} {rs : List Road} {F : Ff} {x : Lb} {xs B : List Lb} {dss : List (List PyData)} {ks : List (Key × Nat)} {y8 y9 y10 y11 y12 : Option Sl} (hn : NetOk n rs) (hR : ∀ h, seq? (.val R) h = .ok (rs.map Road.d) h) (i : Inv n F (x :: (xs ++ B))) (hm : mu n F (x :: (xs ++ B)) ≤ 310000) (w : HasW dss ks (x.c + 1) B) :
    Nx (l_pairs_from_2 [some (.val (.int n)), some (.val (R)), some (.val (.int s)), some (.loc 0), some (.loc 1), some (.val (.int (x.c : Nat))), some (.val (.int (x.t : Nat))), some (.val (.int (x.p : Nat))), y8, y9, y10, y11, y12] [.lls (ffL n F), .dil dss ks]) fun e h => ∃ (dss' : List (List PyData)) (ks' : List (Key × Nat)) (y8 y9 y10 y11 y12 : Option Sl), HasW dss' ks' (x.c + 1) (B ++ psh rs F x) ∧ e = [some (.val (.int n)), some (.val (R)), some (.val (.int s)), some (.loc 0), some (.loc 1), some (.val (.int (x.c : Nat))), some (.val (.int (x.t : Nat))), some (.val (.int (x.p : Nat))), y8, y9, y10, y11, y12] ∧ h = [.lls (ffL n (stF F x)), .dil dss' ks'] := by
  obtain ⟨hh, hp⟩ := i.hist x List.mem_cons_self
  have hl := hn.len
  have n2 := hn.n2
  have lo := hh.low
  have hBl : B.length ≤ 310000 := by
    unfold mu at hm
    simp at hm
    omega
  have hin := v_innAt (k := 0) (p := x.p) (h := [.lls (ffL n F), .dil dss ks]) (dss := ffL n F) rfl (by unfold ffL; rw [rowsL_len]; exact hp)
  have hget : inn? [.lls (ffL n F), .dil dss ks] 0 x.p = some ((F x.p).map ctD) := by
    rw [v_inn0 rfl]
    exact rowsL_get hp
  have hsh : shp (.list ((F x.p).map ctD)) = true := shp_listB lay_ct2 (by decide)
  have eq := v_eqNi hget hsh
  have etest : (tOr_ (tV (cBin gEq (eIxI (eVar 3) (eVar 7)) (eLst aNil))) (tV (cBin (gI fLt) (eVar 6) (cBin gIx (cBin gIx (eIxI (eVar 3) (eVar 7)) (cUn gNeg (eK (.int 1)))) (eK (.int 1)))))) [some (.val (.int n)), some (.val (R)), some (.val (.int s)), some (.loc 0), some (.loc 1), some (.val (.int (x.c : Nat))), some (.val (.int (x.t : Nat))), some (.val (.int (x.p : Nat))), y8, y9, y10, y11, y12] [.lls (ffL n F), .dil dss ks] = .ok (acc F x) [.lls (ffL n F), .dil dss ks] := by
    cases q : (F x.p).getLast? with
    | none =>
      have e0 : F x.p = [] := List.getLast?_eq_none_iff.mp q
      have ea : acc F x = true := by unfold acc; rw [e0]; rfl
      rw [e0] at eq
      simp [hin, line_s, eq, ea]
    | some y =>
      have ne : ((F x.p).map ctD).isEmpty = false := by
        cases z : F x.p with
        | nil => rw [z] at q; cases q
        | cons _ _ => rfl
      rw [ne] at eq
      have el : atI ((F x.p).map ctD) (-1) = some (ctD y) := at_last (by rw [List.getLast?_map, q]; rfl)
      have ea : acc F x = decide (x.t < y.2) := by
        rw [Bool.eq_iff_iff, decide_eq_true_iff, ← last_fall (i.ord x.p) y q]
        exact acc_iff i
      simp [hin, line_s, eq, hget, el, ctD, ea]
  unfold l_pairs_from_2
  by_cases ha : acc F x = true
  · rw [ha] at etest
    refine Nx.if_t etest ?_
    rw [psh_accB ha, show stF F x = addF F x by unfold stF; rw [if_pos ha]]
    refine Nx.seqEq (e1 := [some (.val (.int n)), some (.val (R)), some (.val (.int s)), some (.loc 0), some (.loc 1), some (.val (.int (x.c : Nat))), some (.val (.int (x.t : Nat))), some (.val (.int (x.p : Nat))), y8, y9, y10, y11, y12]) (h1 := [.lls (ffL n (addF F x)), .dil dss ks]) ?_ ?_
    · have ea := v_appI (n := 0) (i := x.p) (h := [.lls (ffL n F), .dil dss ks]) (d := ctD (x.c, x.t)) (ds := (F x.p).map ctD) (dss := ffL n F) rfl (rowsL_get hp) (by rw [List.length_map]; have := i.len x.p; omega)
      rw [ffL_setB hp] at ea
      exact v_expMt (s := .inn 0 x.p) (ss := [.val (ctD (x.c, x.t))]) (ds := (F x.p).map ctD) (by simp [hin]) hget (by simp [line_s, ctD]) ea
    exact pf_for hR w (by omega) fun r m => by
      have ok := hn.all r m
      have := ok.c1
      have := ok.c2
      omega
  · have ha' : acc F x = false := by simpa using ha
    rw [ha'] at etest
    refine Nx.if_f etest ?_
    have e2 : psh rs F x = [] := by unfold psh; rw [if_neg ha]
    rw [e2, List.append_nil, show stF F x = F by unfold stF; rw [if_neg ha]]
    exact ⟨_, _, rfl, dss, ks, _, _, _, _, _, w, rfl, rfl⟩
theorem pf_batch {n s c : Nat} {R : PyData} {rs : List Road} {G : Ff} {F : Ff} {xs B : List Lb} {dss : List (List PyData)} {ks : List (Key × Nat)} {src : En → Hs → Rz (List PyData)} {h0 : Hs} {y6 y7 y8 y9 y10 y11 y12 : Option Sl} (hn : NetOk n rs) (hR : ∀ h, seq? (.val R) h = .ok (rs.map Road.d) h) (es : src [some (.val (.int n)), some (.val (R)), some (.val (.int s)), some (.loc 0), some (.loc 1), some (.val (.int (c : Nat))), y6, y7, y8, y9, y10, y11, y12] h0 = .ok (xs.map tpD) [.lls (ffL n F), .dil dss ks]) (hx : ∀ x ∈ xs, x.c = c) (pw : xs.Pairwise fun a b => leT a b = true) (r : Run rs F (xs ++ B) G) (i : Inv n F (xs ++ B)) (hm : mu n F (xs ++ B) ≤ 310000) (hb : ∀ b ∈ B, c < b.c) (w : HasW dss ks (c + 1) B) :
    Nx (sFor src (.tp [(.nm 6), (.nm 7)]) l_pairs_from_2 [some (.val (.int n)), some (.val (R)), some (.val (.int s)), some (.loc 0), some (.loc 1), some (.val (.int (c : Nat))), y6, y7, y8, y9, y10, y11, y12] h0) fun e h => ∃ (F' : Ff) (B' : List Lb) (dss' : List (List PyData)) (ks' : List (Key × Nat)) (y6 y7 y8 y9 y10 y11 y12 : Option Sl), Run rs F' B' G ∧ Inv n F' B' ∧ mu n F' B' ≤ 310000 ∧ HasW dss' ks' (c + 1) B' ∧ e = [some (.val (.int n)), some (.val (R)), some (.val (.int s)), some (.loc 0), some (.loc 1), some (.val (.int (c : Nat))), y6, y7, y8, y9, y10, y11, y12] ∧ h = [.lls (ffL n F'), .dil dss' ks'] := by
  refine (Nx.forR (ds := xs.map tpD) (h1 := [.lls (ffL n F), .dil dss ks]) (I := fun rest e h => ∃ (todo : List Lb) (F' : Ff) (B' : List Lb) (dss' : List (List PyData)) (ks' : List (Key × Nat)) (y6 y7 y8 y9 y10 y11 y12 : Option Sl), rest = todo.map tpD ∧ (∀ x ∈ todo, x.c = c) ∧ todo.Pairwise (fun a b => leT a b = true) ∧ (∀ b ∈ B', c < b.c) ∧ Run rs F' (todo ++ B') G ∧ Inv n F' (todo ++ B') ∧ mu n F' (todo ++ B') ≤ 310000 ∧ HasW dss' ks' (c + 1) B' ∧ e = [some (.val (.int n)), some (.val (R)), some (.val (.int s)), some (.loc 0), some (.loc 1), some (.val (.int (c : Nat))), y6, y7, y8, y9, y10, y11, y12] ∧ h = [.lls (ffL n F'), .dil dss' ks']) es ⟨xs, F, B, dss, ks, _, _, _, _, _, _, _, rfl, hx, pw, hb, r, i, hm, w, rfl, rfl⟩ ?_).mono ?_
  · rintro d rest _ _ ⟨todo, F', B', dss', ks', y6, y7, y8, y9, y10, y11, y12, e, hx, pw, hb, r, i, hm, w, rfl, rfl⟩
    cases todo with
    | nil => cases e
    | cons x todo =>
      rw [List.map_cons, List.cons.injEq] at e
      obtain ⟨rfl, rfl⟩ := e
      have hc : x.c = c := hx x List.mem_cons_self
      subst hc
      rw [List.pairwise_cons] at pw
      have le : ∀ y ∈ todo ++ B', x.le y := fun y m => by
        unfold Lb.le
        rcases List.mem_append.mp m with m | m
        · have h1 := hx y (List.mem_cons_of_mem _ m)
          have h2 := pw.1 y m
          unfold leT at h2
          have h2 := of_decide_eq_true h2
          omega
        · have := hb y m
          omega
      refine ⟨_, by simp [tpD]; rfl, ?_⟩
      rw [List.cons_append] at r i hm
      obtain ⟨j, l⟩ := Inv.step hn i le
      refine (pf_turn (s := s) (R := R) hn hR i hm w).mono ?_
      rintro _ _ ⟨dss2, ks2, y8, y9, y10, y11, y12, w2, rfl, rfl⟩
      have ra := r.next le
      rw [List.append_assoc] at j ra l
      refine ⟨todo, _, _, dss2, ks2, _, _, _, _, _, _, _, rfl, fun y m => hx y (List.mem_cons_of_mem _ m), pw.2, fun b m => ?_, ra, j, ?_, w2, rfl, rfl⟩
      · rcases List.mem_append.mp m with m | m
        · exact hb b m
        · unfold psh at m
          split at m
          · obtain ⟨r, hr, rfl⟩ := List.mem_map.mp m
            have := (hn.all r (List.mem_filter.mp hr).1).c1
            show x.c < x.c + r.cost
            omega
          · cases m
      · omega
  · rintro _ _ ⟨todo, F', B', dss', ks', y6, y7, y8, y9, y10, y11, y12, e, hx, pw, hb, r, i, hm, w, rfl, rfl⟩
    cases todo with
    | cons x todo => cases e
    | nil => exact ⟨F', B', dss', ks', _, _, _, _, _, _, _, r, i, hm, w, rfl, rfl⟩
theorem pf_while {n s c : Nat} {R : PyData} {rs : List Road} {G : Ff} {F : Ff} {B : List Lb} {dss : List (List PyData)} {ks : List (Key × Nat)} {y6 y7 y8 y9 y10 y11 y12 : Option Sl} (hn : NetOk n rs) (hR : ∀ h, seq? (.val R) h = .ok (rs.map Road.d) h) (r : Run rs F B G) (i : Inv n F B) (hm : mu n F B ≤ 310000) (w : HasW dss ks c B) (hb : ∀ b ∈ B, c ≤ b.c) :
    Nx (l_pairs_from_3 [some (.val (.int n)), some (.val (R)), some (.val (.int s)), some (.loc 0), some (.loc 1), some (.val (.int (c : Nat))), y6, y7, y8, y9, y10, y11, y12] [.lls (ffL n F), .dil dss ks]) fun e h => ∃ (F' : Ff) (B' : List Lb) (dss' : List (List PyData)) (ks' : List (Key × Nat)) (y6 y7 y8 y9 y10 y11 y12 : Option Sl), Run rs F' B' G ∧ Inv n F' B' ∧ mu n F' B' ≤ 310000 ∧ HasW dss' ks' (c + 1) B' ∧ e = [some (.val (.int n)), some (.val (R)), some (.val (.int s)), some (.loc 0), some (.loc 1), some (.val (.int ((c + 1 : Nat) : Int))), y6, y7, y8, y9, y10, y11, y12] ∧ h = [.lls (ffL n F'), .dil dss' ks'] := by
  have pp : B.Perm ((atC B c).mergeSort leT ++ B.filter fun x => !decide (x.c = c)) := ((List.mergeSort_perm (atC B c) leT).append_right _ |>.trans (List.filter_append_perm (fun x : Lb => decide (x.c = c)) B)).symm
  have i2 := i.perm pp
  have r2 := r.perm pp.symm
  have hm2 : mu n F ((atC B c).mergeSort leT ++ B.filter fun x => !decide (x.c = c)) ≤ 310000 := by rw [← mu_perm pp]; exact hm
  have hBl : B.length ≤ 310000 := by unfold mu at hm; omega
  have hal : (atC B c).length ≤ B.length := List.length_filter_le _ _
  have es : srcSeq (cCB gSorted (aCons (ePopL (eVar 4) (eVar 5)) aNil)) [some (.val (.int n)), some (.val (R)), some (.val (.int s)), some (.loc 0), some (.loc 1), some (.val (.int (c : Nat))), y6, y7, y8, y9, y10, y11, y12] [.lls (ffL n F), .dil dss ks] = .ok (((atC B c).mergeSort leT).map tpD) [.lls (ffL n F), .dil dss (dropN ks (.inl (c : Int)))] := by
    rcases w.at_ c with ⟨j, e1, e2⟩ | ⟨e1, e2⟩
    · have ep := v_popOld (n := 1) (h := [.lls (ffL n F), .dil dss ks]) rfl e1
      have hg : gSorted [.inn 1 j] [.lls (ffL n F), .dil dss (dropN ks (.inl (c : Int)))] = some (.list (((atC B c).mergeSort leT).map tpD)) := by
        unfold gSorted
        dsimp only
        rw [v_liI, v_inn1 rfl, e2]
        dsimp only
        rw [if_pos (sort_tpB _ (by omega)), srt_tp]
      simp [ep, hg]
    · have ep := v_popNone (n := 1) (h := [.lls (ffL n F), .dil dss ks]) rfl e1
      have hg : gSorted [.val (.list [])] [.lls (ffL n F), .dil dss ks] = some (.list []) := by
        unfold gSorted
        dsimp only [v_liL, litems]
        rw [if_pos (by decide)]
        simp [srtD]
      rw [w.drop e1, e2]
      simp [ep, hg]
  unfold l_pairs_from_3
  refine Nx.seq (pf_batch (n := n) (s := s) (c := c) (R := R) hn hR es (fun x m => by
    have := (List.mergeSort_perm (atC B c) leT).mem_iff.mp m
    simpa using (List.mem_filter.mp this).2) (srt_pw _) r2 i2 hm2 (fun b m => by
    obtain ⟨m1, m2⟩ := List.mem_filter.mp m
    have := hb b m1
    have : b.c ≠ c := by simpa using m2
    omega) w.pop) ?_
  rintro _ _ ⟨F', B', dss', ks', y6, y7, y8, y9, y10, y11, y12, r', i', hm', w', rfl, rfl⟩
  have ec : ((c + 1 : Nat) : Int) = (c : Int) + 1 := by omega
  refine Nx.of (e := [some (.val (.int n)), some (.val (R)), some (.val (.int s)), some (.loc 0), some (.loc 1), some (.val (.int ((c + 1 : Nat) : Int))), y6, y7, y8, y9, y10, y11, y12]) (h := [.lls (ffL n F'), .dil dss' ks']) ?_ ⟨F', B', dss', ks', _, _, _, _, _, _, _, r', i', hm', w', rfl, rfl⟩
  rw [ec]
  rfl
theorem fence_outB {n : Nat} {F : Ff} {tg : Nat} {env : En} {h : Hs} {E : Nat → En} (hn : n ≤ 1000) (hE : ∀ z : Nat, Tg.put (.nm tg) (.list ((F z).map ctD)) env = some (E z)) (hf : ∀ z : Nat, (cCB gTuple (aCons (eVar tg) aNil)) (E z) h = .ok (.val (.tuple ((F z).map ctD))) h) :
    compL (.nm tg) tTrue (cCB gTuple (aCons (eVar tg) aNil)) env ((ffL n F).map .list) [] h = .ok ((List.range n).map fun p => .tuple ((F p).map ctD)) h := by
  have := comp_map (tg := .nm tg) (c := tTrue) (f := cCB gTuple (aCons (eVar tg) aNil)) (env := env) (h := h) (E := E) (dd := fun p : Nat => PyData.list ((F p).map ctD)) (w := fun p : Nat => PyData.tuple ((F p).map ctD)) hE (fun z => by simp) (List.range n) [] (fun z _ => hf z) (by simp; omega)
  rw [show (ffL n F).map PyData.list = (List.range n).map fun p : Nat => PyData.list ((F p).map ctD) by unfold ffL rowsL; rw [List.map_map]; rfl]
  simpa using this
theorem e_pairsFrom {n s : Nat} {R : PyData} {rs : List Road} {G : Ff} (hn : NetOk n rs) (hs : s < n) (hR : ∀ h, seq? (.val R) h = .ok (rs.map Road.d) h) (r : Run rs Fe [⟨0, 0, s⟩] G) : m_pairs_from [.int n, R, .int s] [] = .ok (fenceD n G) [] := by
  have h2 := hn.n2
  unfold m_pairs_from
  refine run_eq ?_
  have e0 : mkEnv [false, false, false] [.int n, R, .int s] 0 ++ List.replicate 10 none = [some (.val (.int n)), some (.val (R)), some (.val (.int s)), none, none, none, none, none, none, none, none, none, none] := rfl
  rw [e0]
  unfold b_pairs_from
  apply Out.seqEq (e1 := [some (.val (.int n)), some (.val (R)), some (.val (.int s)), some (.loc 0), none, none, none, none, none, none, none, none, none]) (h1 := [.lls (ffL n Fe)])
  · have ec := v_compE (src := srcRng1 (aCons (eVar 0) aNil)) (env := [some (.val (.int n)), some (.val (R)), some (.val (.int s)), none, none, none, none, none, none, none, none, none, none]) (h := []) (h1 := []) (ds := upTo 0 n) (by simp; rw [v_rng1 (by omega) (by omega)]; simp) (by simp [upTo]; omega)
    have er : List.replicate (upTo 0 n).length ([] : List PyData) = ffL n Fe := by
      rw [show (upTo 0 n).length = n by simp [upTo], rowsL_rep]
      rfl
    rw [er] at ec
    simp only [v_set, ec]
    rfl
  have w0 : HasW [[.tuple [.int 0, .int s]]] [(.inl 0, 0)] 0 [⟨0, 0, s⟩] := by
    refine ⟨fun k => ?_, fun k k' i q1 q2 => ?_, fun r m => ?_, by simp⟩
    · by_cases e : k = 0
      · subst e
        exact .inl ⟨0, by simp [lookN], by simp [atC, tpD]⟩
      · have e1 : ¬ (0 : Int) = k := by omega
        have e2 : ¬ 0 = k := by omega
        exact .inr ⟨by simp [lookN, e1], by simp [atC, e2]⟩
    · have h1 := look_memK q1
      have h2 := look_memK q2
      simp at h1 h2
      rw [h1.1, h2.1]
    · rw [List.mem_singleton.mp m]
      exact ⟨0, rfl, Nat.le_refl _, by decide⟩
  apply Out.seqEq (e1 := [some (.val (.int n)), some (.val (R)), some (.val (.int s)), some (.loc 0), some (.loc 1), some (.val (.int ((0 : Nat) : Int))), none, none, none, none, none, none, none]) (h1 := [.lls (ffL n Fe), .dil [[.tuple [.int 0, .int s]]] [(.inl 0, 0)]])
  · have ed := v_dilN (k := 0) (c := 0) (i := 2) (j := (s : Int)) (env := [some (.val (.int n)), some (.val (R)), some (.val (.int s)), some (.loc 0), none, none, none, none, none, none, none, none, none]) (h := [.lls (ffL n Fe)]) rfl
    simp only [v_par, v_acons, ed, v_bind]
    rfl
  refine Out.seq (A := fun e h => ∃ (dss : List (List PyData)) (ks : List (Key × Nat)) (y5 y6 y7 y8 y9 y10 y11 y12 : Option Sl), e = [some (.val (.int n)), some (.val (R)), some (.val (.int s)), some (.loc 0), some (.loc 1), y5, y6, y7, y8, y9, y10, y11, y12] ∧ h = [.lls (ffL n G), .dil dss ks]) ?_ ?_
  · refine Out.while_ 1101 (by omega) (I := fun m e h => ∃ (c : Nat) (F : Ff) (B : List Lb) (dss : List (List PyData)) (ks : List (Key × Nat)) (y6 y7 y8 y9 y10 y11 y12 : Option Sl), m = 1101 - c ∧ Inv n F B ∧ Run rs F B G ∧ mu n F B ≤ 310000 ∧ HasW dss ks c B ∧ (∀ b ∈ B, c ≤ b.c) ∧ e = [some (.val (.int n)), some (.val (R)), some (.val (.int s)), some (.loc 0), some (.loc 1), some (.val (.int (c : Nat))), y6, y7, y8, y9, y10, y11, y12] ∧ h = [.lls (ffL n F), .dil dss ks]) ⟨0, Fe, _, _, _, _, _, _, _, _, _, _, rfl, inv0 hs, r, mu0 h2, w0, fun _ _ => Nat.zero_le _, rfl, rfl⟩ ?_
    rintro m _ _ ⟨c, F, B, dss, ks, y6, y7, y8, y9, y10, y11, y12, rfl, i, r, hm, w, hb, rfl, rfl⟩
    have ne := v_neD (n := 1) (h := [.lls (ffL n F), .dil dss ks]) (dss := dss) (ks := ks) rfl
    cases ks with
    | nil =>
      refine .inl ⟨by simp at ne ⊢; simp [ne], dss, [], _, _, _, _, _, _, _, _, rfl, ?_⟩
      have : B = [] := by
        cases B with
        | nil => rfl
        | cons b B =>
          rcases w.at_ b.c with ⟨j, e1, _⟩ | ⟨_, e2⟩
          · cases e1
          · simp [atC] at e2
      subst this
      rw [r.nil]
    | cons k ks =>
      refine .inr ⟨by simp at ne ⊢; simp [ne], ?_⟩
      obtain ⟨q, _, l1, l2⟩ := w.key k List.mem_cons_self
      refine ⟨1101 - (c + 1), by omega, Out.of_nx ((pf_while (s := s) (R := R) hn hR r i hm w hb).mono ?_)⟩
      rintro _ _ ⟨F', B', dss', ks', y6, y7, y8, y9, y10, y11, y12, r', i', hm', w', rfl, rfl⟩
      refine ⟨c + 1, F', B', dss', ks', _, _, _, _, _, _, _, rfl, i', r', hm', w', fun b m => ?_, rfl, rfl⟩
      rcases w'.at_ b.c with ⟨j, e1, _⟩ | ⟨_, e2⟩
      · obtain ⟨q, e3, l1, _⟩ := w'.key _ (look_memK e1)
        have := keyI e3
        omega
      · have : b ∈ atC B' b.c := List.mem_filter.mpr ⟨m, decide_eq_true rfl⟩
        rw [e2] at this
        cases this
  · rintro _ _ ⟨dss, ks, y5, y6, y7, y8, y9, y10, y11, y12, rfl, rfl⟩
    refine Out.ret (s := .val (fenceD n G)) (h := [.gone, .dil dss ks]) ?_ (by rw [v_outV]; rfl)
    obtain ⟨e', ef, y5, y6, y7, y8, y9, y10, y11, y12, rfl⟩ : ∃ e' : En, frz? 0 3 [some (.val (.int n)), some (.val (R)), some (.val (.int s)), some (.loc 0), some (.loc 1), y5, y6, y7, y8, y9, y10, y11, y12] [.lls (ffL n G), .dil dss ks] = some (e', [.gone, .dil dss ks]) ∧ ∃ y5 y6 y7 y8 y9 y10 y11 y12 : Option Sl, e' = [some (.val (.int n)), some (.val (R)), some (.val (.int s)), some (.val (.list ((ffL n G).map .list))), some (.loc 1), y5, y6, y7, y8, y9, y10, y11, y12] := ⟨_, rfl, _, _, _, _, _, _, _, _, rfl⟩
    unfold sFrz
    rw [ef]
    dsimp only
    have eo := fence_outB (n := n) (F := G) (tg := 12) (env := [some (.val (.int n)), some (.val (R)), some (.val (.int s)), some (.val (.list ((ffL n G).map .list))), some (.loc 1), y5, y6, y7, y8, y9, y10, y11, none]) (h := [.gone, .dil dss ks]) (E := fun p => [some (.val (.int n)), some (.val (R)), some (.val (.int s)), some (.val (.list ((ffL n G).map .list))), some (.loc 1), y5, y6, y7, y8, y9, y10, y11, some (.val (.list ((G p).map ctD)))]) (by omega) (fun z => by simp) (fun z => by simp)
    simp only [v_ret, v_cb, v_acons, v_anil, v_comp, v_src, v_var, List.getElem?_cons_zero, List.getElem?_cons_succ, v_slot, v_bind, v_seqL, v_wipe0, v_wipe, List.set_cons_zero, List.set_cons_succ, eo]
    rfl
end FL

namespace FL
open PySem PySem.Spec PyProof.Rows L2 PySem.W
theorem rk_int10 {i : Nat} (h : i < 1024) : Rk 11 0 (.int (i : Nat)) := by
  have q : (i : Int).natAbs.log2 < 10 := by
    rw [Int.natAbs_natCast]
    by_cases z : i = 0
    · rw [z]; decide
    · exact (Nat.log2_lt z).mpr (by omega)
  refine ⟨by rfl, by simp [PyData.depth], by simp [PyData.showable]; rw [Int.natAbs_natCast] at q; omega, ?_⟩
  have := int_text_length_le (by decide) q
  have e : (PyData.shown (.int (i : Int))).length = (toString (i : Int)).length := by
    show (Str.ofString (toString (i : Int))).length = _
    exact PySem.ofString_length _
  rw [e]; exact this
theorem rk_ct {y : Nat × Nat} (h1 : y.1 < 1024) (h2 : y.2 < 1024) : Rk 29 1 (ctD y) := by
  refine (Rk.tuple (w := 11) (k := 0) fun d m => ?_).mono (by simp) (by decide)
  simp only [List.mem_cons, List.not_mem_nil, or_false] at m
  rcases m with rfl | rfl
  · exact rk_int10 h1
  · exact rk_int10 h2
theorem rk_ctRow {l : List (Nat × Nat)} (h : ∀ y ∈ l, y.1 < 1024 ∧ y.2 < 1024) (hl : l.length ≤ 1000) : Rk 31003 2 (.tuple (l.map ctD)) := by
  refine (Rk.tuple (w := 29) (k := 1) fun d m => ?_).mono (by rw [List.length_map]; omega) (by decide)
  obtain ⟨y, my, rfl⟩ := List.mem_map.mp m
  exact rk_ct (h y my).1 (h y my).2
theorem rk_fence {n : Nat} {G : Ff} (hn : n ≤ 10) (i : Inv n G []) : Rk 310053 3 (fenceD n G) := by
  refine (Rk.tuple (w := 31003) (k := 2) fun d m => ?_).mono (by rw [List.length_map, List.length_range]; omega) (by decide)
  obtain ⟨p, _, rfl⟩ := List.mem_map.mp m
  exact rk_ctRow (fun y my => by have := i.low p y my; omega) (Nat.le_trans (i.len p) (by decide))
theorem e_fence {n s : Nat} {rs : List Road} {G : Ff} (hn : NetOk n rs) (hs : s < n) (r : Run rs Fe [⟨0, 0, s⟩] G) : m_fence_of [netD n rs, .int s] [] = .ok (fenceD n G) [] := by
  have e := e_pairsFrom (R := .tuple (rs.map Road.d)) hn hs (fun h => by simp) r
  have e1 := e_needNet hn
  have e2 := e_needPlace (rs := rs) hs
  unfold netD at *
  simp [m_fence_of, b_fence_of, e1, e2, e]
end FL

namespace FL
open PySem PySem.Spec PyProof.Rows L2
theorem e_takeW {s : Dr} {far : Int} (h1 : 0 < far) (h2 : far < 18446744073709551616) : m__law_take [.int far] [s.o] = .ok (.int (s.tk far)) [(s.nx far).o] := by
  have hb := s.hb
  unfold Dr.tk Dr.nx
  by_cases q : 0 < s.a
  · have w : (0 : Int) < s.a := by omega
    rw [if_pos q, if_pos q]
    simp [m__law_take, b__law_take, Dr.o, q, v_fMod h1, v_fDivW h1 h2]
    exact (Int.max_eq_left (Int.ediv_nonneg (Int.natCast_nonneg _) (by omega))).symm
  · have w : ¬ (0 : Int) < s.a := by omega
    rw [if_neg q, if_neg q]
    have e0 : ∀ x : Int, fMod x 2147483647 = some (.int (x % 2147483647)) := fun x => v_fMod (by decide)
    have e1 : ∀ x : Int, fMod x 2147483629 = some (.int (x % 2147483629)) := fun x => v_fMod (by decide)
    have e2 : ∀ x : Int, fMod x 2147483587 = some (.int (x % 2147483587)) := fun x => v_fMod (by decide)
    have e3 : ∀ x : Int, fDiv x 8 = some (.int (x / 8)) := fun x => v_fDiv (by decide) (by decide)
    have e4 : ∀ x : Int, fMul x 48271 = some (.int (x * 48271)) := fun x => v_fMulR (by decide) (by decide)
    have e5 : ∀ x : Int, fMul 39373 x = some (.int (39373 * x)) := fun x => v_fMulL (by decide) (by decide)
    have e6 : ∀ x : Int, fMul 16807 x = some (.int (16807 * x)) := fun x => v_fMulL (by decide) (by decide)
    have e7 : ∀ x y : Int, fMul (x % 2147483647) y = some (.int (x % 2147483647 * y)) := fun x y => v_fMulL (by omega) (by omega)
    have e8 : ∀ x y : Int, fMul (x % 2147483629) y = some (.int (x % 2147483629 * y)) := fun x y => v_fMulL (by omega) (by omega)
    simp [m__law_take, b__law_take, Dr.o, q, e0, e1, e2, e3, e4, e5, e6, e7, e8, v_fMod h1, Dr.x2, Dr.x1, Dr.b1]
    omega
theorem e_take {s : Dr} {far : Int} (h1 : 0 < far) (h2 : far < 1073741824) : m__law_take [.int far] [s.o] = .ok (.int (s.tk far)) [(s.nx far).o] := e_takeW h1 (by omega)
theorem c_takeW {s : Dr} {far : Int} {r : Hs} (h1 : 0 < far) (h2 : far < 18446744073709551616) : callF m__law_take [true, false] false [.loc 0, .val (.int far)] (s.o :: r) = .ok (.val (.int (s.tk far))) ((s.nx far).o :: r) :=
  callF_eq (ns := [0]) (vw := []) rfl rfl (.inl rfl) (e_takeW h1 h2) (.inl rfl)
@[simp] theorem c_take {s : Dr} {far : Int} {r : Hs} (h1 : 0 < far) (h2 : far < 1073741824) : callF m__law_take [true, false] false [.loc 0, .val (.int far)] (s.o :: r) = .ok (.val (.int (s.tk far))) ((s.nx far).o :: r) :=
  callF_eq (ns := [0]) (vw := []) rfl rfl (.inl rfl) (e_take h1 h2) (.inl rfl)
def stOf (c : Int) : Dr := ⟨(c - 1000000000000000000).toNat, (c % 2147483647).toNat, by omega⟩
theorem e_cell {ns : List Int} {k : Nat} : m__law_cell_at [.list (ns.map .int), .int k] [] = .ok (.int (ns[k]?.getD 0)) [] := by
  by_cases q : k < ns.length
  · have w : (k : Int) < ns.length := by omega
    simp [m__law_cell_at, b__law_cell_at, q]
  · have w : ¬ (k : Int) < ns.length := by omega
    simp [m__law_cell_at, b__law_cell_at, q]
theorem e_state {ns : List Int} {k : Nat} : m__law_state [.list (ns.map .int), .int k] [] = .ok (.list [.int (stOf (ns[k]?.getD 0)).a, .int (stOf (ns[k]?.getD 0)).b]) [] := by
  have e0 : ∀ x : Int, fMod x 2147483647 = some (.int (x % 2147483647)) := fun x => v_fMod (by decide)
  have e1 : fPow 10 18 = some (.int 1000000000000000000) := by unfold fPow; rw [if_pos (by decide)]; rfl
  simp [m__law_state, b__law_state, e_cell, e0, e1, v_new1]
  rw [v_outR rfl rfl]
  simp [stOf]
  omega
theorem c_state {ns : List Int} {k : Nat} {h : Hs} : callN m__law_state [false, false] [.val (.list (ns.map .int)), .val (.int k)] h = .ok (.loc h.length) (h ++ [(stOf (ns[k]?.getD 0)).o]) := by
  rw [callN_eq (ns := []) (vw := []) rfl rfl e_state rfl]
  rfl
end FL

namespace FL
open PySem PySem.Spec PyProof.Rows L2
theorem fin_road {n : Nat} {s' : Dr} {rs : List Road} {x0 x1 x2 x3 x4 x5 : Option Sl} {a b c d : Int} (ha : 0 ≤ a ∧ a < n) (hb : 0 ≤ b ∧ b < n ∧ a ≠ b) (hc : 1 ≤ c ∧ c ≤ 99) (hd : 0 ≤ d ∧ d ≤ 99) :
    ∃ (r : Road), r.Ok n ∧ ∃ (s'' : Dr) (z6 z7 z8 z9 : PyData), Fl.next [x0, x1, x2, x3, x4, x5, some (.val (.int a)), some (.val (.int b)), some (.val (.int c)), some (.val (.int d))] [s'.o, .lst (rs.map Road.d ++ [.tuple [.int a, .int b, .int c, .int d]])]
      = .next [x0, x1, x2, x3, x4, x5, some (.val z6), some (.val z7), some (.val z8), some (.val z9)] [s''.o, .lst ((rs ++ [r]).map Road.d)] := by
  refine ⟨⟨a.toNat, b.toNat, c.toNat, d.toNat⟩, ⟨?_, ?_, ?_, ?_, ?_, ?_⟩, s', .int a, .int b, .int c, .int d, ?_⟩
  · show a.toNat < n; omega
  · show b.toNat < n; omega
  · show a.toNat ≠ b.toNat; omega
  · show 1 ≤ c.toNat; omega
  · show c.toNat ≤ 99; omega
  · show d.toNat ≤ 99; omega
  · rw [List.map_append]
    simp only [List.map_cons, List.map_nil, Road.d]
    rw [Int.toNat_of_nonneg ha.1, Int.toNat_of_nonneg hb.1, Int.toNat_of_nonneg (by omega), Int.toNat_of_nonneg hd.1]
theorem e_drawn {n t : Nat} {s : Dr} {rs : List Road} {x1 x2 y6 y7 y8 y9 : Option Sl} (h1 : 2 ≤ n) (h2 : n ≤ 10) (hl : rs.length < 100000) :
    ∃ (r : Road), r.Ok n ∧ ∃ (s' : Dr) (z6 z7 z8 z9 : PyData), l__law_net_1 [some (.loc 0), x1, x2, some (.val (.int n)), some (.loc 1), some (.val (.int t)), y6, y7, y8, y9] [s.o, .lst (rs.map Road.d)]
      = .next [some (.loc 0), x1, x2, some (.val (.int n)), some (.loc 1), some (.val (.int t)), some (.val z6), some (.val z7), some (.val z8), some (.val z9)] [s'.o, .lst ((rs ++ [r]).map Road.d)] := by
  have w1 : (0 : Int) < n := by omega
  have w2 : (n : Int) < 1073741824 := by omega
  have w3 : (0 : Int) < (n : Int) - 1 := by omega
  have w4 : (n : Int) - 1 < 1073741824 := by omega
  have w5 : rs.length < 16777216 := by omega
  generalize hX : l__law_net_1 [some (.loc 0), x1, x2, some (.val (.int n)), some (.loc 1), some (.val (.int t)), y6, y7, y8, y9] [s.o, .lst (rs.map Road.d)] = X
  simp only [l__law_net_1] at hX
  simp [c_take w1 w2, c_take w3 w4, line_s, v_fMod w1, w5] at hX
  subst hX
  have A : ∀ (p : Prop) [Decidable p], 0 ≤ (if p then s.tk n else min (t : Int) (n - 1)) ∧ (if p then s.tk n else min (t : Int) (n - 1)) < n := by
    intro p _
    have := tk_nn (s := s) w1
    have := tk_lt (s := s) w1
    split <;> omega
  refine fin_road (A _) ?_ ?_ ?_
  · obtain ⟨a1, a2⟩ := A (Dr.tk (s.nx n) 2 = 0)
    rw [Int.add_assoc]
    have B : ∀ (p : Prop) [Decidable p], 1 ≤ 1 + (if p then (0 : Int) else ((s.nx n).nx 2).tk (n - 1)) ∧ 1 + (if p then (0 : Int) else ((s.nx n).nx 2).tk (n - 1)) < n := by
      intro p _
      have := tk_nn (s := (s.nx n).nx 2) w3
      have := tk_lt (s := (s.nx n).nx 2) w3
      split <;> omega
    exact mod_wrap a1 a2 (B _).1 (B _).2
  · generalize ((((s.nx ↑n).nx 2).nx (↑n - 1)).nx 2) = u
    have := tk_nn (s := u) (show (0 : Int) < 4 by decide)
    have := tk_lt (s := u) (show (0 : Int) < 4 by decide)
    have := tk_nn (s := u.nx 4) (show (0 : Int) < 99 by decide)
    have := tk_lt (s := u.nx 4) (show (0 : Int) < 99 by decide)
    split <;> (try split) <;> omega
  · generalize (((((((s.nx ↑n).nx 2).nx (↑n - 1)).nx 2).nx 4).nx 99).nx 3) = u
    have := tk_nn (s := u) (show (0 : Int) < 4 by decide)
    have := tk_lt (s := u) (show (0 : Int) < 4 by decide)
    have := tk_nn (s := u.nx 4) (show (0 : Int) < 100 by decide)
    have := tk_lt (s := u.nx 4) (show (0 : Int) < 100 by decide)
    split <;> (try split) <;> omega
theorem e_drawns {n : Nat} {x1 x2 : Option Sl} (hx : cutE 2 [x1, x2] = [x1, x2]) (h1 : 2 ≤ n) (h2 : n ≤ 10) : ∀ (ts : List Nat) (s : Dr) (rs : List Road) (y5 y6 y7 y8 y9 : Option Sl), (∀ r ∈ rs, r.Ok n) → rs.length + ts.length < 100000 →
    ∃ (rs' : List Road) (s' : Dr) (z5 z6 z7 z8 z9 : Option Sl), (∀ r ∈ rs', r.Ok n) ∧ rs'.length = rs.length + ts.length ∧
      loopF (.nm 5) l__law_net_1 2 (ts.map fun t : Nat => .int t) [some (.loc 0), x1, x2, some (.val (.int n)), some (.loc 1), y5, y6, y7, y8, y9] [s.o, .lst (rs.map Road.d)]
      = .next [some (.loc 0), x1, x2, some (.val (.int n)), some (.loc 1), z5, z6, z7, z8, z9] [s'.o, .lst (rs'.map Road.d)]
  | [], s, rs, y5, y6, y7, y8, y9, ho, _ => ⟨rs, s, y5, y6, y7, y8, y9, ho, by simp, rfl⟩
  | t :: ts, s, rs, y5, y6, y7, y8, y9, ho, hl => by
    have hl' : rs.length + ts.length + 1 < 100000 := hl
    obtain ⟨r, hr, s1, u6, u7, u8, u9, e⟩ := e_drawn (t := t) (s := s) (rs := rs) (x1 := x1) (x2 := x2) (y6 := y6) (y7 := y7) (y8 := y8) (y9 := y9) h1 h2 (by omega)
    obtain ⟨rs', s', z5, z6, z7, z8, z9, h3, h4, e2⟩ := e_drawns hx h1 h2 ts s1 (rs ++ [r]) (some (.val (.int t))) (some (.val u6)) (some (.val u7)) (some (.val u8)) (some (.val u9)) (fun x m => by
      rcases List.mem_append.mp m with m | m
      · exact ho x m
      · rw [List.mem_singleton.mp m]; exact hr) (by simp; omega)
    refine ⟨rs', s', z5, z6, z7, z8, z9, h3, by rw [h4]; simp; omega, ?_⟩
    rw [← e2, List.map_cons]
    conv => lhs; unfold loopF
    simp only [v_putN, List.set_cons_succ, List.set_cons_zero]
    rw [e]
    simp only [cutE, List.map_cons, List.map_nil, List.cons.injEq] at hx
    simp only [List.take_succ_cons, List.take_zero, v_cutV, v_cutO, v_cutN]
    have e3 : cutE 2 (x1 :: x2 :: some (.val (.int n)) :: some (.loc 1) :: some (.val (.int t)) :: some (.val u6) :: some (.val u7) :: some (.val u8) :: [some (.val u9)]) = x1 :: x2 :: some (.val (.int n)) :: some (.loc 1) :: some (.val (.int t)) :: some (.val u6) :: some (.val u7) :: some (.val u8) :: [some (.val u9)] := by
      simp only [cutE, List.map_cons, List.map_nil, List.cons.injEq]
      obtain ⟨a1, a2, _⟩ := hx
      simp [a1, a2]
    rw [e3]
    rfl
theorem c_net {s : Dr} {a b : Nat} {r : Hs} (ha : 1 ≤ a ∧ a ≤ 10) (hb : b ≤ 30) : ∃ (n : Nat) (rs : List Road) (s' : Dr), NetOk n rs ∧ n ≤ a ∧ rs.length ≤ b ∧ callF m__law_net [true, false, false] false [.loc 0, .val (.int a), .val (.int b)] (s.o :: r) = .ok (.val (netD n rs)) (s'.o :: r) := by
  have w1 : (0 : Int) < a := by omega
  have w2 : (a : Int) < 1073741824 := by omega
  have w3 : (0 : Int) < (b : Int) + 1 := by omega
  have w4 : (b : Int) + 1 < 1073741824 := by omega
  have t1 := tk_nn (s := s) w1
  have t2 := tk_lt (s := s) w1
  obtain ⟨n, hn⟩ : ∃ n : Nat, 1 + s.tk a = n := ⟨(1 + s.tk a).toNat, by omega⟩
  have t3 := tk_nn (s := s.nx a) w3
  have t4 := tk_lt (s := s.nx a) w3
  obtain ⟨m, hm⟩ : ∃ m : Nat, (s.nx a).tk (b + 1) * (if (1 : Int) < n then 1 else 0) = m := ⟨((s.nx a).tk (b + 1) * (if (1 : Int) < n then 1 else 0)).toNat, by split <;> omega⟩
  have hm2 : m ≤ b := by
    split at hm <;> omega
  have hm3 : n = 1 → m = 0 := fun e => by
    rw [if_neg (by omega)] at hm
    omega
  have f1 : ∀ j : Int, fMul ((s.nx a).tk (b + 1)) j = some (.int ((s.nx a).tk (b + 1) * j)) := fun j => v_fMulL (by omega) (by omega)
  obtain ⟨rs, s', z5, z6, z7, z8, z9, q1, q2, e⟩ : ∃ (rs' : List Road) (s' : Dr) (z5 z6 z7 z8 z9 : Option Sl), (∀ r ∈ rs', r.Ok n) ∧ rs'.length = m ∧
      loopF (.nm 5) l__law_net_1 2 ((List.range m).map fun t : Nat => .int t) [some (.loc 0), some (.val (.int a)), some (.val (.int b)), some (.val (.int n)), some (.loc 1), none, none, none, none, none] [((s.nx a).nx (b + 1)).o, .lst []]
      = .next [some (.loc 0), some (.val (.int a)), some (.val (.int b)), some (.val (.int n)), some (.loc 1), z5, z6, z7, z8, z9] [s'.o, .lst (rs'.map Road.d)] := by
    by_cases hn1 : n = 1
    · rw [hm3 hn1]
      exact ⟨[], _, none, none, none, none, none, by simp, rfl, rfl⟩
    · have := e_drawns (n := n) (x1 := some (.val (.int a))) (x2 := some (.val (.int b))) (by simp) (by omega) (by omega) (List.range m) ((s.nx a).nx (b + 1)) [] none none none none none (by simp) (by simp; omega)
      simpa using this
  refine ⟨n, rs, s', ⟨by omega, by omega, by omega, q1⟩, by omega, by omega, ?_⟩
  refine callF_eq (ns := [0]) (vw := []) (os := [s.o]) (os' := [s'.o]) (ds := [.int a, .int b]) rfl rfl (.inl rfl) ?_ (.inl rfl)
  simp [m__law_net, b__law_net, c_take w1 w2, c_take w3 w4, v_new1, hn, f1, hm]
  rw [v_rng1 (by omega) (by omega)]
  simp [upTo]
  rw [e]
  simp [line_s, netD]
end FL

namespace FL
open PySem PySem.Spec PyProof.Rows L2
def rs3 : List Road := [⟨0, 1, 2, 5⟩, ⟨0, 1, 3, 4⟩, ⟨0, 1, 3, 5⟩]
theorem ok3 : NetOk 3 rs3 := ⟨by decide, by decide, by decide, fun r m => by
  simp only [rs3, List.mem_cons, List.not_mem_nil, or_false] at m
  rcases m with rfl | rfl | rfl <;> exact ⟨by decide, by decide, by decide, by decide, by decide, by decide⟩⟩
theorem run3 : ∃ G, Run rs3 Fe [⟨0, 0, 0⟩] G ∧ fenceD 3 G = .tuple [.tuple [.tuple [.int 0, .int 0]], .tuple [.tuple [.int 2, .int 5], .tuple [.int 3, .int 4]], .tuple []] :=
  ⟨_, .step ⟨0, 0, 0⟩ (.refl _) (by simp) (.step (B' := [⟨3, 4, 1⟩, ⟨3, 5, 1⟩]) ⟨2, 5, 1⟩ (.refl _) (by decide) (.step (B' := [⟨3, 5, 1⟩]) ⟨3, 4, 1⟩ (.refl _) (by decide) (.step (B' := []) ⟨3, 5, 1⟩ (.refl _) (by decide) (.done _)))), rfl⟩
theorem lt1 {ns : List Int} {k : Nat} {y2 y3 y4 y5 y6 y7 : Option Sl} : Nx (l_law_1 [some (.val (.list (ns.map .int))), some (.val (.int (k : Nat))), y2, y3, y4, y5, y6, y7] []) fun e h => ∃ (s : Dr) (y3 y4 y5 y6 y7 : Option Sl), e = [some (.val (.list (ns.map .int))), some (.val (.int (k : Nat))), some (.loc 0), y3, y4, y5, y6, y7] ∧ h = [s.o] := by
  unfold l_law_1
  refine Nx.seqSet (s := .loc 0) (h1 := [(stOf (ns[k]?.getD 0)).o]) (by simp [c_state]) ?_
  obtain ⟨n, rs, s1, hn, hn8, hr16, e1⟩ := c_net (s := stOf (ns[k]?.getD 0)) (a := 8) (b := 16) (r := []) (by decide) (by decide)
  have h1 := hn.n1
  have h2 := hn.n2
  refine Nx.seqSet (s := .val (netD n rs)) (h1 := [s1.o]) (by simpa using e1) ?_
  have w1 : (0 : Int) < n := by omega
  have w2 : (n : Int) < 1073741824 := by omega
  have t1 := tk_nn (s := s1) w1
  have t2 := tk_lt (s := s1) w1
  obtain ⟨a, ha⟩ : ∃ a : Nat, s1.tk n = a := ⟨(s1.tk n).toNat, by omega⟩
  have han : a < n := by omega
  have et := c_take (s := s1) (far := n) (r := []) w1 w2
  rw [ha] at et
  obtain ⟨G, r⟩ := run_ex0 hn han
  have inv := r.inv hn (inv0 han)
  have rk := rk_fence (by omega) inv
  have eF := e_fence hn han r
  have eL := e_lawPairs hn han r
  have rn : ∀ h : Hs, gReprX [.val (netD n rs)] h = some (.str (netD n rs).shown) := fun h => v_reprX rfl (rk_net hn) (by decide) (by decide)
  have r2 : ∀ h : Hs, gReprX [.val (.list [fenceD n G, fenceD n G])] h = some (.str (PyData.list [fenceD n G, fenceD n G]).shown) := fun h => v_reprX rfl (Rk.list (w := 310053) (k := 3) (ds := [fenceD n G, fenceD n G]) fun d m => by
    simp only [List.mem_cons, List.not_mem_nil, or_false, or_self] at m
    subst m
    exact rk) (by decide) (by simp)
  have ix0 : items (.val (netD n rs)) [s1.o] = some [.int n, .tuple (rs.map Road.d)] := rfl
  refine Nx.seqEq (e1 := [some (.val (.list (ns.map .int))), some (.val (.int (k : Nat))), some (.loc 0), some (.val (netD n rs)), some (.val (.str (netD n rs).shown)), some (.val (.int a)), y6, y7]) (h1 := [(s1.nx n).o]) (by simp [rn, ix0, et]) ?_
  refine Nx.seqSet (s := .val (fenceD n G)) (h1 := [(s1.nx n).o]) (by simp [eL]) ?_
  refine Nx.seqSet (s := .val (.list [fenceD n G, fenceD n G])) (h1 := [(s1.nx n).o]) (by simp [eF, line_s]) ?_
  refine Nx.of (e := [some (.val (.list (ns.map .int))), some (.val (.int (k : Nat))), some (.loc 0), some (.val (netD n rs)), some (.val (.str (netD n rs).shown)), some (.val (.int a)), some (.val (fenceD n G)), some (.val (.list [fenceD n G, fenceD n G]))]) (h := [(s1.nx n).o]) (by simp [rn, r2, line_s]) ⟨_, _, _, _, _, _, rfl, rfl⟩
theorem law_true : ∀ ns : List Int, ns.length ≤ 63 → ∃ h', m_law [.list (ns.map PyData.int)] [] = .ok (.bool true) h' := by
  intro ns _
  have key := run_ex (fr := false) (io := [false]) (nl := 7) (p := b_law) (ds := [.list (ns.map PyData.int)]) (os := []) (P := fun d h => d = .bool true) ?_
  · obtain ⟨d, h', e, rfl⟩ := key
    exact ⟨h', e⟩
  have e0 : mkEnv [false] [.list (ns.map PyData.int)] 0 ++ List.replicate 7 none = [some (.val (.list (ns.map .int))), none, none, none, none, none, none, none] := rfl
  rw [e0]
  unfold b_law
  refine Out.seqEq (e1 := [some (.val (.list (ns.map .int))), none, none, none, none, none, none, none]) (h1 := []) ?_ ?_
  · obtain ⟨G, r, eG⟩ := run3
    have eF := e_fence ok3 (show 0 < 3 by decide) r
    have rk := rk_fence (by omega) (r.inv ok3 (inv0 (show 0 < 3 by decide)))
    rw [eG] at eF rk
    have ne := v_ne_self (h := []) rk (by decide)
    have eF' : m_fence_of [.tuple [.int 3, .tuple [.tuple [.int 0, .int 1, .int 2, .int 5], .tuple [.int 0, .int 1, .int 3, .int 4], .tuple [.int 0, .int 1, .int 3, .int 5]]], .int 0] [] = .ok (.tuple [.tuple [.tuple [.int 0, .int 0]], .tuple [.tuple [.int 2, .int 5], .tuple [.int 3, .int 4]], .tuple []]) [] := eF
    simp [line_s, eF', ne]
  refine Out.seq (A := fun e h => True) ?_ ?_
  · refine (Out.of_nx (Nx.for_ (ds := upTo 0 (max 1 (min (ns.length : Int) 4)).toNat) (h1 := []) (I := fun e h => ∃ y1 y2 y3 y4 y5 y6 y7 : Option Sl, e = [some (.val (.list (ns.map .int))), y1, y2, y3, y4, y5, y6, y7] ∧ h = []) (by
      simp
      rw [v_rng1 (by omega) (by omega)]) ⟨_, _, _, _, _, _, _, rfl, rfl⟩ (by
      rintro d hd _ _ ⟨y1, y2, y3, y4, y5, y6, y7, rfl, rfl⟩
      obtain ⟨k, hk, rfl⟩ := List.mem_map.mp (show d ∈ (List.range (max 1 (min (ns.length : Int) 4)).toNat).map fun (k : Nat) => PyData.int (0 + (k : Int)) from hd)
      refine ⟨_, by simp; rfl, ?_⟩
      refine lt1.mono ?_
      rintro _ _ ⟨s, y3, y4, y5, y6, y7, rfl, rfl⟩
      exact ⟨_, _, _, _, _, _, _, rfl, rfl⟩))).mono (fun _ _ _ => trivial) (fun _ _ z => z)
  · intro env hh _
    exact Out.ret (s := .val (.bool true)) (h := hh) (by simp) ⟨_, _, v_outV, rfl⟩
end FL

namespace FL
open PySem PySem.Spec PyProof.Rows L2
def topS (i : Nat) : Stmt := PySem.Challenge.pw_waysranked_k52_least_fences.main.body.getD i (.Pass ⟨0, 0, 0, 0⟩)
structure Tx (K : PySem.W.Frag) (mg : Str → Option Value) : Prop where
  n_all : mg "all" = none
  n_bool : mg "bool" = none
  n_int : mg "int" = none
  n_isinstance : mg "isinstance" = none
  n_len : mg "len" = none
  n_max : mg "max" = none
  n_min : mg "min" = none
  n_range : mg "range" = none
  n_repr : mg "repr" = none
  n_sorted : mg "sorted" = none
  n_tuple : mg "tuple" = none
  c_MOST_COST : ∃ t, mg "MOST_COST" = some (.int 99 t)
  c_MOST_PLACES : ∃ t, mg "MOST_PLACES" = some (.int 10 t)
  c_MOST_ROADS : ∃ t, mg "MOST_ROADS" = some (.int 30 t)
  c_MOST_TIME : ∃ t, mg "MOST_TIME" = some (.int 99 t)
  x_NoNet : ∃ c, ExCls K mg "NoNet" c
  x_NoPlace : ∃ c, ExCls K mg "NoPlace" c
/-- a def that keeps its promise -/
structure Cal (P : Program) (w : World) (K : PySem.W.Frag) (mg : Str → Option Value) (base : Heap) (x : Str) (k : Nat) (ps : List Str) (sp : Sp) : Prop where
  ex : ∃ (f : Addr) (fd : FuncData), FnG P w K mg base (L2.CX P w) k f fd ps sp ∧ mg x = some (.ref f) ∧ PySem.W.keepIn K (.ref f) = true ∧ Binds K fd ps []
section
variable {P : Program} {w : World} {K : PySem.W.Frag} {mg : Str → Option Value} {base : Heap} {TT : List (Addr × Str)}
abbrev s_is_among : Stmt := topS 6
abbrev N_is_among : List Str := ["thing", "least", "most"]
theorem sc_is_among : FnScope N_is_among ["thing", "least", "most"] (defScope s_is_among) := ⟨rfl, rfl, rfl, by decide +kernel, rfl, by decide +kernel, by decide +kernel⟩
abbrev Q_is_among (P : Program) (w : World) (K : PySem.W.Frag) (mg : Str → Option Value) (base : Heap) (TT : List (Addr × Str)) : Prop := Cal P w K mg base "is_among" 1 ["thing", "least", "most"] (spOf K mg TT false [false, false, false] m_is_among)
theorem own_is_among {f : Addr} {fd : FuncData} (T : Tx K mg) (F : Fun K "is_among" "is_among" s_is_among f fd) : FnG P w K mg base (L2.CX P w) 1 f fd ["thing", "least", "most"] (spOf K mg TT false [false, false, false] m_is_among) := by
  refine fnD false [false, false, false] F sc_is_among rfl ?_
  intro cdv hcv A outer s H E C hT hW hgd hr
  have tk := takes_of (X := cxOf (L2.CX P w) P w K mg base N_is_among "is_among" (defScope s_is_among) f cdv A outer s H E) (E := E) rfl rfl rfl rfl
  have hp := passes_of (X := cxOf (L2.CX P w) P w K mg base N_is_among "is_among" (defScope s_is_among) f cdv A outer s H E) rfl
  exact (fss_one (fs_ret (fe_and (fe_isa (c := "int") (by decide) (by rfl) T.n_isinstance (by rfl) T.n_int (by decide +kernel) (fe_var 0)) (fe_and (fe_not (fe_isa (c := "bool") (by decide) (by rfl) T.n_isinstance (by rfl) T.n_bool (by decide +kernel) (fe_var 0))) (fe_one (fe_chain o_le o_le (fe_var 1) (fe_var 0) (fe_var 2)))))))
theorem ok_is_among {f : Addr} {fd : FuncData} (T : Tx K mg) (F : Fun K "is_among" "is_among" s_is_among f fd) (hm : mg "is_among" = some (.ref f)) : Q_is_among P w K mg base TT :=
  ⟨⟨f, fd, own_is_among T F, hm, F.kp, F.binds fun _ _ _ _ _ _ us hl => match us, hl with | [_, _, _], _ => rfl⟩⟩
abbrev s_is_road : Stmt := topS 12
abbrev N_is_road : List Str := ["thing", "places", "one", "other", "cost", "time", "end"]
theorem sc_is_road : FnScope N_is_road ["thing", "places"] (defScope s_is_road) := ⟨rfl, rfl, rfl, by decide +kernel, rfl, by decide +kernel, by decide +kernel⟩
abbrev Q_is_road (P : Program) (w : World) (K : PySem.W.Frag) (mg : Str → Option Value) (base : Heap) (TT : List (Addr × Str)) : Prop := Cal P w K mg base "is_road" 2 ["thing", "places"] (spOf K mg TT false [false, false] m_is_road)
theorem own_is_road {f : Addr} {fd : FuncData} (T : Tx K mg) (g_is_among : Q_is_among P w K mg base TT) (F : Fun K "is_road" "is_road" s_is_road f fd) : FnG P w K mg base (L2.CX P w) 2 f fd ["thing", "places"] (spOf K mg TT false [false, false] m_is_road) := by
  obtain ⟨f_is_among, fd_is_among, G_is_among, mg_is_among, kp_is_among, b_is_among⟩ := g_is_among.ex
  refine fnD false [false, false] F sc_is_road rfl ?_
  intro cdv hcv A outer s H E C hT hW hgd hr
  have tk := takes_of (X := cxOf (L2.CX P w) P w K mg base N_is_road "is_road" (defScope s_is_road) f cdv A outer s H E) (E := E) rfl rfl rfl rfl
  have hp := passes_of (X := cxOf (L2.CX P w) P w K mg base N_is_road "is_road" (defScope s_is_road) f cdv A outer s H E) rfl
  exact (fss_cons (fs_if (ft_w (fw_or (ft_not (ft_val (fe_isa (c := "tuple") (by decide) (by rfl) T.n_isinstance (by rfl) T.n_tuple (by decide +kernel) (fe_var 0)))) (fw_or (ft_cmp (o_ne hr.units) (fe_callB c_len (by rfl) T.n_len (by decide +kernel) (fa_cons (fe_var 0) fa_nil)) fe_int (nomark _)) (fw_or1 (ft_not (ft_val (fe_callB (c_all rfl) (by rfl) T.n_all (by decide +kernel) (fa_cons (fe_comp (own := [("end", 6)]) rfl sc_is_road.nd (fi_seq (fe_slice (fe_var 0) fo_none (fo_some fe_int))) (blkOk_by (own := [("end", 6)]) (N := N_is_road) (sc := defScope s_is_road) (by decide +kernel)) (fun _ _ _ _ _ => (fg_nm sc_is_road.nd rfl (by first | exact Or.inl rfl | exact Or.inr rfl))) (fun _ hT1 _ _ _ _ _ => fts_nil) (fun _ hT1 _ _ _ _ _ => (fe_call G_is_among (hT1.trans hT) hgd (hr.mono (by decide : 1 ≤ 1)) takes0 (by rfl) mg_is_among kp_is_among b_is_among (fa_cons (fe_var 6) (fa_cons fe_int (fa_cons (fe_op o_sub (fe_var 1) fe_int) fa_nil)))))) fa_nil)))))))) (fss_one (fs_ret fe_bl)) fss_nil)
      (fss_cons (fs_asg (fe_var 0) (fg_tp rfl (fgs_cons (fg_nm sc_is_road.nd rfl (by first | exact Or.inl rfl | exact Or.inr rfl)) (fgs_cons (fg_nm sc_is_road.nd rfl (by first | exact Or.inl rfl | exact Or.inr rfl)) (fgs_cons (fg_nm sc_is_road.nd rfl (by first | exact Or.inl rfl | exact Or.inr rfl)) (fgs_cons (fg_nm sc_is_road.nd rfl (by first | exact Or.inl rfl | exact Or.inr rfl)) fgs_nil))))))
      (fss_one (fs_ret (fe_and (fe_cmp (o_ne hr.units) (fe_var 2) (fe_var 3) (nomark _)) (fe_and (fe_call G_is_among hT hgd (hr.mono (by decide : 1 ≤ 1)) tk (by rfl) mg_is_among kp_is_among b_is_among (fa_cons (fe_var 4) (fa_cons fe_int (fa_cons (fe_globI (by rfl) T.c_MOST_COST) fa_nil)))) (fe_one (fe_call G_is_among hT hgd (hr.mono (by decide : 1 ≤ 1)) tk (by rfl) mg_is_among kp_is_among b_is_among (fa_cons (fe_var 5) (fa_cons fe_int (fa_cons (fe_globI (by rfl) T.c_MOST_TIME) fa_nil)))))))))))
theorem ok_is_road {f : Addr} {fd : FuncData} (T : Tx K mg) (g_is_among : Q_is_among P w K mg base TT) (F : Fun K "is_road" "is_road" s_is_road f fd) (hm : mg "is_road" = some (.ref f)) : Q_is_road P w K mg base TT :=
  ⟨⟨f, fd, own_is_road T g_is_among F, hm, F.kp, F.binds fun _ _ _ _ _ _ us hl => match us, hl with | [_, _], _ => rfl⟩⟩
abbrev s_is_net : Stmt := topS 13
abbrev N_is_net : List Str := ["thing", "places", "roads", "one"]
theorem sc_is_net : FnScope N_is_net ["thing"] (defScope s_is_net) := ⟨rfl, rfl, rfl, by decide +kernel, rfl, by decide +kernel, by decide +kernel⟩
abbrev Q_is_net (P : Program) (w : World) (K : PySem.W.Frag) (mg : Str → Option Value) (base : Heap) (TT : List (Addr × Str)) : Prop := Cal P w K mg base "is_net" 3 ["thing"] (spOf K mg TT false [false] m_is_net)
theorem own_is_net {f : Addr} {fd : FuncData} (T : Tx K mg) (g_is_among : Q_is_among P w K mg base TT) (g_is_road : Q_is_road P w K mg base TT) (F : Fun K "is_net" "is_net" s_is_net f fd) : FnG P w K mg base (L2.CX P w) 3 f fd ["thing"] (spOf K mg TT false [false] m_is_net) := by
  obtain ⟨f_is_among, fd_is_among, G_is_among, mg_is_among, kp_is_among, b_is_among⟩ := g_is_among.ex
  obtain ⟨f_is_road, fd_is_road, G_is_road, mg_is_road, kp_is_road, b_is_road⟩ := g_is_road.ex
  refine fnD false [false] F sc_is_net rfl ?_
  intro cdv hcv A outer s H E C hT hW hgd hr
  have tk := takes_of (X := cxOf (L2.CX P w) P w K mg base N_is_net "is_net" (defScope s_is_net) f cdv A outer s H E) (E := E) rfl rfl rfl rfl
  have hp := passes_of (X := cxOf (L2.CX P w) P w K mg base N_is_net "is_net" (defScope s_is_net) f cdv A outer s H E) rfl
  exact (fss_cons (fs_if (ft_w (fw_or (ft_not (ft_val (fe_isa (c := "tuple") (by decide) (by rfl) T.n_isinstance (by rfl) T.n_tuple (by decide +kernel) (fe_var 0)))) (fw_or (ft_cmp (o_ne hr.units) (fe_callB c_len (by rfl) T.n_len (by decide +kernel) (fa_cons (fe_var 0) fa_nil)) fe_int (nomark _)) (fw_or1 (ft_not (ft_val (fe_call G_is_among hT hgd (hr.mono (by decide : 1 ≤ 2)) tk (by rfl) mg_is_among kp_is_among b_is_among (fa_cons (fe_ix i_ix (fe_var 0) fe_int (fun _ _ => rfl)) (fa_cons fe_int (fa_cons (fe_globI (by rfl) T.c_MOST_PLACES) fa_nil)))))))))) (fss_one (fs_ret fe_bl)) fss_nil)
      (fss_cons (fs_asg (fe_var 0) (fg_tp rfl (fgs_cons (fg_nm sc_is_net.nd rfl (by first | exact Or.inl rfl | exact Or.inr rfl)) (fgs_cons (fg_nm sc_is_net.nd rfl (by first | exact Or.inl rfl | exact Or.inr rfl)) fgs_nil))))
      (fss_one (fs_ret (fe_and (fe_isa (c := "tuple") (by decide) (by rfl) T.n_isinstance (by rfl) T.n_tuple (by decide +kernel) (fe_var 2)) (fe_and (fe_cmp o_le (fe_callB c_len (by rfl) T.n_len (by decide +kernel) (fa_cons (fe_var 2) fa_nil)) (fe_globI (by rfl) T.c_MOST_ROADS) (nomark _)) (fe_one (fe_callB (c_all rfl) (by rfl) T.n_all (by decide +kernel) (fa_cons (fe_comp (own := [("one", 3)]) rfl sc_is_net.nd (fi_seq (fe_var 2)) (blkOk_by (own := [("one", 3)]) (N := N_is_net) (sc := defScope s_is_net) (by decide +kernel)) (fun _ _ _ _ _ => (fg_nm sc_is_net.nd rfl (by first | exact Or.inl rfl | exact Or.inr rfl))) (fun _ hT1 _ _ _ _ _ => fts_nil) (fun _ hT1 _ _ _ _ _ => (fe_call G_is_road (hT1.trans hT) hgd (hr.mono (by decide : 2 ≤ 2)) takes0 (by rfl) mg_is_road kp_is_road b_is_road (fa_cons (fe_var 3) (fa_cons (fe_var 1) fa_nil))))) fa_nil)))))))))
theorem ok_is_net {f : Addr} {fd : FuncData} (T : Tx K mg) (g_is_among : Q_is_among P w K mg base TT) (g_is_road : Q_is_road P w K mg base TT) (F : Fun K "is_net" "is_net" s_is_net f fd) (hm : mg "is_net" = some (.ref f)) : Q_is_net P w K mg base TT :=
  ⟨⟨f, fd, own_is_net T g_is_among g_is_road F, hm, F.kp, F.binds fun _ _ _ _ _ _ us hl => match us, hl with | [_], _ => rfl⟩⟩
abbrev s_need_net : Stmt := topS 14
abbrev N_need_net : List Str := ["thing"]
theorem sc_need_net : FnScope N_need_net ["thing"] (defScope s_need_net) := ⟨rfl, rfl, rfl, by decide +kernel, rfl, by decide +kernel, by decide +kernel⟩
abbrev Q_need_net (P : Program) (w : World) (K : PySem.W.Frag) (mg : Str → Option Value) (base : Heap) (TT : List (Addr × Str)) : Prop := Cal P w K mg base "need_net" 4 ["thing"] (spOf K mg TT false [false] m_need_net)
theorem own_need_net {f : Addr} {fd : FuncData} (T : Tx K mg) (g_is_net : Q_is_net P w K mg base TT) (F : Fun K "need_net" "need_net" s_need_net f fd) : FnG P w K mg base (L2.CX P w) 4 f fd ["thing"] (spOf K mg TT false [false] m_need_net) := by
  obtain ⟨f_is_net, fd_is_net, G_is_net, mg_is_net, kp_is_net, b_is_net⟩ := g_is_net.ex
  refine fnD false [false] F sc_need_net rfl ?_
  intro cdv hcv A outer s H E C hT hW hgd hr
  have tk := takes_of (X := cxOf (L2.CX P w) P w K mg base N_need_net "need_net" (defScope s_need_net) f cdv A outer s H E) (E := E) rfl rfl rfl rfl
  have hp := passes_of (X := cxOf (L2.CX P w) P w K mg base N_need_net "need_net" (defScope s_need_net) f cdv A outer s H E) rfl
  exact (fss_one (fs_if (ft_not (ft_val (fe_call G_is_net hT hgd (hr.mono (by decide : 3 ≤ 3)) tk (by rfl) mg_is_net kp_is_net b_is_net (fa_cons (fe_var 0) fa_nil)))) (fss_one (fs_raise rfl tk T.x_NoNet.choose_spec (by rfl))) fss_nil))
theorem ok_need_net {f : Addr} {fd : FuncData} (T : Tx K mg) (g_is_net : Q_is_net P w K mg base TT) (F : Fun K "need_net" "need_net" s_need_net f fd) (hm : mg "need_net" = some (.ref f)) : Q_need_net P w K mg base TT :=
  ⟨⟨f, fd, own_need_net T g_is_net F, hm, F.kp, F.binds fun _ _ _ _ _ _ us hl => match us, hl with | [_], _ => rfl⟩⟩
abbrev s_is_place : Stmt := topS 15
abbrev N_is_place : List Str := ["net", "thing"]
theorem sc_is_place : FnScope N_is_place ["net", "thing"] (defScope s_is_place) := ⟨rfl, rfl, rfl, by decide +kernel, rfl, by decide +kernel, by decide +kernel⟩
abbrev Q_is_place (P : Program) (w : World) (K : PySem.W.Frag) (mg : Str → Option Value) (base : Heap) (TT : List (Addr × Str)) : Prop := Cal P w K mg base "is_place" 2 ["net", "thing"] (spOf K mg TT false [false, false] m_is_place)
theorem own_is_place {f : Addr} {fd : FuncData} (T : Tx K mg) (g_is_among : Q_is_among P w K mg base TT) (F : Fun K "is_place" "is_place" s_is_place f fd) : FnG P w K mg base (L2.CX P w) 2 f fd ["net", "thing"] (spOf K mg TT false [false, false] m_is_place) := by
  obtain ⟨f_is_among, fd_is_among, G_is_among, mg_is_among, kp_is_among, b_is_among⟩ := g_is_among.ex
  refine fnD false [false, false] F sc_is_place rfl ?_
  intro cdv hcv A outer s H E C hT hW hgd hr
  have tk := takes_of (X := cxOf (L2.CX P w) P w K mg base N_is_place "is_place" (defScope s_is_place) f cdv A outer s H E) (E := E) rfl rfl rfl rfl
  have hp := passes_of (X := cxOf (L2.CX P w) P w K mg base N_is_place "is_place" (defScope s_is_place) f cdv A outer s H E) rfl
  exact (fss_one (fs_ret (fe_call G_is_among hT hgd (hr.mono (by decide : 1 ≤ 1)) tk (by rfl) mg_is_among kp_is_among b_is_among (fa_cons (fe_var 1) (fa_cons fe_int (fa_cons (fe_op o_sub (fe_ix i_ix (fe_var 0) fe_int (fun _ _ => rfl)) fe_int) fa_nil))))))
theorem ok_is_place {f : Addr} {fd : FuncData} (T : Tx K mg) (g_is_among : Q_is_among P w K mg base TT) (F : Fun K "is_place" "is_place" s_is_place f fd) (hm : mg "is_place" = some (.ref f)) : Q_is_place P w K mg base TT :=
  ⟨⟨f, fd, own_is_place T g_is_among F, hm, F.kp, F.binds fun _ _ _ _ _ _ us hl => match us, hl with | [_, _], _ => rfl⟩⟩
abbrev s_need_place : Stmt := topS 16
abbrev N_need_place : List Str := ["net", "thing"]
theorem sc_need_place : FnScope N_need_place ["net", "thing"] (defScope s_need_place) := ⟨rfl, rfl, rfl, by decide +kernel, rfl, by decide +kernel, by decide +kernel⟩
abbrev Q_need_place (P : Program) (w : World) (K : PySem.W.Frag) (mg : Str → Option Value) (base : Heap) (TT : List (Addr × Str)) : Prop := Cal P w K mg base "need_place" 3 ["net", "thing"] (spOf K mg TT false [false, false] m_need_place)
theorem own_need_place {f : Addr} {fd : FuncData} (T : Tx K mg) (g_is_place : Q_is_place P w K mg base TT) (F : Fun K "need_place" "need_place" s_need_place f fd) : FnG P w K mg base (L2.CX P w) 3 f fd ["net", "thing"] (spOf K mg TT false [false, false] m_need_place) := by
  obtain ⟨f_is_place, fd_is_place, G_is_place, mg_is_place, kp_is_place, b_is_place⟩ := g_is_place.ex
  refine fnD false [false, false] F sc_need_place rfl ?_
  intro cdv hcv A outer s H E C hT hW hgd hr
  have tk := takes_of (X := cxOf (L2.CX P w) P w K mg base N_need_place "need_place" (defScope s_need_place) f cdv A outer s H E) (E := E) rfl rfl rfl rfl
  have hp := passes_of (X := cxOf (L2.CX P w) P w K mg base N_need_place "need_place" (defScope s_need_place) f cdv A outer s H E) rfl
  exact (fss_one (fs_if (ft_not (ft_val (fe_call G_is_place hT hgd (hr.mono (by decide : 2 ≤ 2)) tk (by rfl) mg_is_place kp_is_place b_is_place (fa_cons (fe_var 0) (fa_cons (fe_var 1) fa_nil))))) (fss_one (fs_raise rfl tk T.x_NoPlace.choose_spec (by rfl))) fss_nil))
theorem ok_need_place {f : Addr} {fd : FuncData} (T : Tx K mg) (g_is_place : Q_is_place P w K mg base TT) (F : Fun K "need_place" "need_place" s_need_place f fd) (hm : mg "need_place" = some (.ref f)) : Q_need_place P w K mg base TT :=
  ⟨⟨f, fd, own_need_place T g_is_place F, hm, F.kp, F.binds fun _ _ _ _ _ _ us hl => match us, hl with | [_, _], _ => rfl⟩⟩
abbrev s_pairs_from : Stmt := topS 18
abbrev N_pairs_from : List Str := ["places", "roads", "start", "found", "waiting", "cost", "time", "place", "one", "other", "more", "longer", "row"]
theorem sc_pairs_from : FnScope N_pairs_from ["places", "roads", "start"] (defScope s_pairs_from) := ⟨rfl, rfl, rfl, by decide +kernel, rfl, by decide +kernel, by decide +kernel⟩
abbrev Q_pairs_from (P : Program) (w : World) (K : PySem.W.Frag) (mg : Str → Option Value) (base : Heap) (TT : List (Addr × Str)) : Prop := Cal P w K mg base "pairs_from" 1 ["places", "roads", "start"] (spOf K mg TT false [false, false, false] m_pairs_from)
theorem own_pairs_from {f : Addr} {fd : FuncData} (T : Tx K mg) (F : Fun K "pairs_from" "pairs_from" s_pairs_from f fd) : FnG P w K mg base (L2.CX P w) 1 f fd ["places", "roads", "start"] (spOf K mg TT false [false, false, false] m_pairs_from) := by
  refine fnD false [false, false, false] F sc_pairs_from rfl ?_
  intro cdv hcv A outer s H E C hT hW hgd hr
  have tk := takes_of (X := cxOf (L2.CX P w) P w K mg base N_pairs_from "pairs_from" (defScope s_pairs_from) f cdv A outer s H E) (E := E) rfl rfl rfl rfl
  have hp := passes_of (X := cxOf (L2.CX P w) P w K mg base N_pairs_from "pairs_from" (defScope s_pairs_from) f cdv A outer s H E) rfl
  exact (fss_cons (fs_setLcE (own := [("place", 7)]) (i := 7) (j := 3) rfl sc_pairs_from.nd rfl rfl (sw_true rfl rfl rfl (by decide +kernel)) (fi_rng1 (by rfl) T.n_range (fa_cons (fe_var 0) fa_nil)) (blkOk_by (own := [("place", 7)]) (N := N_pairs_from) (sc := defScope s_pairs_from) (by decide +kernel)) (fun _ _ _ _ _ => (fg_nm sc_pairs_from.nd rfl (by first | exact Or.inl rfl | exact Or.inr rfl))))
      (fss_cons (fs_par (i := 4) (j := 5) rfl sc_pairs_from.nd rfl rfl (by decide) rfl rfl (fa_cons (fe_dil1 (i := 2)) (fa_cons fe_int fa_nil)) (by rfl))
      (fss_cons (fs_while 1000000 hp (ft_cmp (o_neD hr.u65) (fe_var 4) fe_dnil (nomark _)) (fss_cons (fs_for hp rfl (fi_seq (fe_callB (c_sorted hr.u65) (by rfl) T.n_sorted (by decide +kernel) (fa_cons (fe_popL (fe_var 4) (fe_var 5)) fa_nil))) (fg_tp rfl (fgs_cons (fg_nm sc_pairs_from.nd rfl (by first | exact Or.inl rfl | exact Or.inr rfl)) (fgs_cons (fg_nm sc_pairs_from.nd rfl (by first | exact Or.inl rfl | exact Or.inr rfl)) fgs_nil))) (fss_one (fs_if (ft_w (fw_or (ft_cmp (o_eq hr.units) (fe_ixI (fe_var 3) (fe_var 7) (fun _ _ => rfl)) (fe_lst fa_nil) (nomark _)) (fw_or1 (ft_cmp o_lt (fe_var 6) (fe_ix i_ix (fe_ix i_ix (fe_ixI (fe_var 3) (fe_var 7) (fun _ _ => rfl)) (fe_un u_neg fe_int) (fun _ _ => rfl)) fe_int (fun _ _ => rfl)) (nomark _))))) (fss_cons (fs_exp (fe_mt PySem.F.slot_list_append PySem.F.type_list_append m_appI (fe_ixI (fe_var 3) (fe_var 7) (fun _ _ => rfl)) (fa_cons (fe_tup (fa_cons (fe_var 5) (fa_cons (fe_var 6) fa_nil))) fa_nil)))
      (fss_one (fs_for hp rfl (fi_seq (fe_var 1)) (fg_tp rfl (fgs_cons (fg_nm sc_pairs_from.nd rfl (by first | exact Or.inl rfl | exact Or.inr rfl)) (fgs_cons (fg_nm sc_pairs_from.nd rfl (by first | exact Or.inl rfl | exact Or.inr rfl)) (fgs_cons (fg_nm sc_pairs_from.nd rfl (by first | exact Or.inl rfl | exact Or.inr rfl)) (fgs_cons (fg_nm sc_pairs_from.nd rfl (by first | exact Or.inl rfl | exact Or.inr rfl)) fgs_nil))))) (fss_one (fs_if (ft_cmp (o_eq hr.units) (fe_var 8) (fe_var 7) (nomark _)) (fss_one (fs_exp (fe_mt PySem.F.slot_list_append PySem.F.type_list_append m_appD (fe_setL (w := 0) hW (fe_var 4) (fe_op o_add (fe_var 5) (fe_var 10))) (fa_cons (fe_tup (fa_cons (fe_op o_add (fe_var 6) (fe_var 11)) (fa_cons (fe_var 9) fa_nil))) fa_nil)))) fss_nil))))) fss_nil)))
      (fss_one (fs_aug (i := 5) sc_pairs_from.nd rfl (by first | exact Or.inl rfl | exact Or.inr rfl) fe_int io_addI))))
      (fss_one (fs_frz (by rw [hW]; decide) (fs_ret (fe_callTy c_tuple (by rfl) T.n_tuple (by decide +kernel) (fa_cons (fe_comp (own := [("row", 12)]) rfl sc_pairs_from.nd (fi_seq (fe_var 3)) (blkOk_by (own := [("row", 12)]) (N := N_pairs_from) (sc := defScope s_pairs_from) (by decide +kernel)) (fun _ _ _ _ _ => (fg_nm sc_pairs_from.nd rfl (by first | exact Or.inl rfl | exact Or.inr rfl))) (fun _ hT1 _ _ _ _ _ => fts_nil) (fun _ hT1 _ _ _ _ _ => (fe_callTy c_tuple (by rfl) T.n_tuple (by decide +kernel) (fa_cons (fe_var 12) fa_nil)))) fa_nil))))))))
theorem ok_pairs_from {f : Addr} {fd : FuncData} (T : Tx K mg) (F : Fun K "pairs_from" "pairs_from" s_pairs_from f fd) (hm : mg "pairs_from" = some (.ref f)) : Q_pairs_from P w K mg base TT :=
  ⟨⟨f, fd, own_pairs_from T F, hm, F.kp, F.binds fun _ _ _ _ _ _ us hl => match us, hl with | [_, _, _], _ => rfl⟩⟩
abbrev s_fence_of : Stmt := topS 19
abbrev N_fence_of : List Str := ["net", "start", "places", "roads"]
theorem sc_fence_of : FnScope N_fence_of ["net", "start"] (defScope s_fence_of) := ⟨rfl, rfl, rfl, by decide +kernel, rfl, by decide +kernel, by decide +kernel⟩
abbrev Q_fence_of (P : Program) (w : World) (K : PySem.W.Frag) (mg : Str → Option Value) (base : Heap) (TT : List (Addr × Str)) : Prop := Cal P w K mg base "fence_of" 5 ["net", "start"] (spOf K mg TT false [false, false] m_fence_of)
theorem own_fence_of {f : Addr} {fd : FuncData} (T : Tx K mg) (g_need_net : Q_need_net P w K mg base TT) (g_need_place : Q_need_place P w K mg base TT) (g_pairs_from : Q_pairs_from P w K mg base TT) (F : Fun K "fence_of" "fence_of" s_fence_of f fd) : FnG P w K mg base (L2.CX P w) 5 f fd ["net", "start"] (spOf K mg TT false [false, false] m_fence_of) := by
  obtain ⟨f_need_net, fd_need_net, G_need_net, mg_need_net, kp_need_net, b_need_net⟩ := g_need_net.ex
  obtain ⟨f_need_place, fd_need_place, G_need_place, mg_need_place, kp_need_place, b_need_place⟩ := g_need_place.ex
  obtain ⟨f_pairs_from, fd_pairs_from, G_pairs_from, mg_pairs_from, kp_pairs_from, b_pairs_from⟩ := g_pairs_from.ex
  refine fnD false [false, false] F sc_fence_of rfl ?_
  intro cdv hcv A outer s H E C hT hW hgd hr
  have tk := takes_of (X := cxOf (L2.CX P w) P w K mg base N_fence_of "fence_of" (defScope s_fence_of) f cdv A outer s H E) (E := E) rfl rfl rfl rfl
  have hp := passes_of (X := cxOf (L2.CX P w) P w K mg base N_fence_of "fence_of" (defScope s_fence_of) f cdv A outer s H E) rfl
  exact (fss_cons (fs_exp (fe_call G_need_net hT hgd (hr.mono (by decide : 4 ≤ 4)) tk (by rfl) mg_need_net kp_need_net b_need_net (fa_cons (fe_var 0) fa_nil)))
      (fss_cons (fs_exp (fe_call G_need_place hT hgd (hr.mono (by decide : 3 ≤ 4)) tk (by rfl) mg_need_place kp_need_place b_need_place (fa_cons (fe_var 0) (fa_cons (fe_var 1) fa_nil))))
      (fss_cons (fs_asg (fe_var 0) (fg_tp rfl (fgs_cons (fg_nm sc_fence_of.nd rfl (by first | exact Or.inl rfl | exact Or.inr rfl)) (fgs_cons (fg_nm sc_fence_of.nd rfl (by first | exact Or.inl rfl | exact Or.inr rfl)) fgs_nil))))
      (fss_one (fs_ret (fe_call G_pairs_from hT hgd (hr.mono (by decide : 1 ≤ 4)) tk (by rfl) mg_pairs_from kp_pairs_from b_pairs_from (fa_cons (fe_var 2) (fa_cons (fe_var 3) (fa_cons (fe_var 1) fa_nil)))))))))
theorem ok_fence_of {f : Addr} {fd : FuncData} (T : Tx K mg) (g_need_net : Q_need_net P w K mg base TT) (g_need_place : Q_need_place P w K mg base TT) (g_pairs_from : Q_pairs_from P w K mg base TT) (F : Fun K "fence_of" "fence_of" s_fence_of f fd) (hm : mg "fence_of" = some (.ref f)) : Q_fence_of P w K mg base TT :=
  ⟨⟨f, fd, own_fence_of T g_need_net g_need_place g_pairs_from F, hm, F.kp, F.binds fun _ _ _ _ _ _ us hl => match us, hl with | [_, _], _ => rfl⟩⟩
abbrev s__law_cell_at : Stmt := topS 21
abbrev N__law_cell_at : List Str := ["_law_script", "_law_k"]
theorem sc__law_cell_at : FnScope N__law_cell_at ["_law_script", "_law_k"] (defScope s__law_cell_at) := ⟨rfl, rfl, rfl, by decide +kernel, rfl, by decide +kernel, by decide +kernel⟩
abbrev Q__law_cell_at (P : Program) (w : World) (K : PySem.W.Frag) (mg : Str → Option Value) (base : Heap) (TT : List (Addr × Str)) : Prop := Cal P w K mg base "_law_cell_at" 1 ["_law_script", "_law_k"] (spOf K mg TT false [false, false] m__law_cell_at)
theorem own__law_cell_at {f : Addr} {fd : FuncData} (T : Tx K mg) (F : Fun K "_law_cell_at" "_law_cell_at" s__law_cell_at f fd) : FnG P w K mg base (L2.CX P w) 1 f fd ["_law_script", "_law_k"] (spOf K mg TT false [false, false] m__law_cell_at) := by
  refine fnD false [false, false] F sc__law_cell_at rfl ?_
  intro cdv hcv A outer s H E C hT hW hgd hr
  have tk := takes_of (X := cxOf (L2.CX P w) P w K mg base N__law_cell_at "_law_cell_at" (defScope s__law_cell_at) f cdv A outer s H E) (E := E) rfl rfl rfl rfl
  have hp := passes_of (X := cxOf (L2.CX P w) P w K mg base N__law_cell_at "_law_cell_at" (defScope s__law_cell_at) f cdv A outer s H E) rfl
  exact (fss_cons (fs_if (ft_cmp o_lt (fe_var 1) (fe_callB c_len (by rfl) T.n_len (by decide +kernel) (fa_cons (fe_var 0) fa_nil)) (nomark _)) (fss_one (fs_ret (fe_ix i_ix (fe_var 0) (fe_var 1) (fun _ _ => rfl)))) fss_nil)
      (fss_one (fs_ret fe_int)))
theorem ok__law_cell_at {f : Addr} {fd : FuncData} (T : Tx K mg) (F : Fun K "_law_cell_at" "_law_cell_at" s__law_cell_at f fd) (hm : mg "_law_cell_at" = some (.ref f)) : Q__law_cell_at P w K mg base TT :=
  ⟨⟨f, fd, own__law_cell_at T F, hm, F.kp, F.binds fun _ _ _ _ _ _ us hl => match us, hl with | [_, _], _ => rfl⟩⟩
abbrev s__law_state : Stmt := topS 22
abbrev N__law_state : List Str := ["_law_script", "_law_k", "_law_cell"]
theorem sc__law_state : FnScope N__law_state ["_law_script", "_law_k"] (defScope s__law_state) := ⟨rfl, rfl, rfl, by decide +kernel, rfl, by decide +kernel, by decide +kernel⟩
abbrev Q__law_state (P : Program) (w : World) (K : PySem.W.Frag) (mg : Str → Option Value) (base : Heap) (TT : List (Addr × Str)) : Prop := Cal P w K mg base "_law_state" 2 ["_law_script", "_law_k"] (spOf K mg TT true [false, false] m__law_state)
theorem own__law_state {f : Addr} {fd : FuncData} (T : Tx K mg) (g__law_cell_at : Q__law_cell_at P w K mg base TT) (F : Fun K "_law_state" "_law_state" s__law_state f fd) : FnG P w K mg base (L2.CX P w) 2 f fd ["_law_script", "_law_k"] (spOf K mg TT true [false, false] m__law_state) := by
  obtain ⟨f__law_cell_at, fd__law_cell_at, G__law_cell_at, mg__law_cell_at, kp__law_cell_at, b__law_cell_at⟩ := g__law_cell_at.ex
  refine fnD true [false, false] F sc__law_state rfl ?_
  intro cdv hcv A outer s H E C hT hW hgd hr
  have tk := takes_of (X := cxOf (L2.CX P w) P w K mg base N__law_state "_law_state" (defScope s__law_state) f cdv A outer s H E) (E := E) rfl rfl rfl rfl
  have hp := passes_of (X := cxOf (L2.CX P w) P w K mg base N__law_state "_law_state" (defScope s__law_state) f cdv A outer s H E) rfl
  exact (fss_cons (fs_set (i := 2) sc__law_state.nd rfl (by first | exact Or.inl rfl | exact Or.inr rfl) (fe_call G__law_cell_at hT hgd (hr.mono (by decide : 1 ≤ 1)) tk (by rfl) mg__law_cell_at kp__law_cell_at b__law_cell_at (fa_cons (fe_var 0) (fa_cons (fe_var 1) fa_nil))))
      (fss_one (fs_ret (fe_new (fa_cons (fe_callB (c_max2 rfl) (by rfl) T.n_max (by decide +kernel) (fa_cons fe_int (fa_cons (fe_op o_sub (fe_var 2) (fe_op o_pow fe_int fe_int)) fa_nil))) (fa_cons (fe_op o_mod (fe_var 2) fe_int) fa_nil))))))
theorem ok__law_state {f : Addr} {fd : FuncData} (T : Tx K mg) (g__law_cell_at : Q__law_cell_at P w K mg base TT) (F : Fun K "_law_state" "_law_state" s__law_state f fd) (hm : mg "_law_state" = some (.ref f)) : Q__law_state P w K mg base TT :=
  ⟨⟨f, fd, own__law_state T g__law_cell_at F, hm, F.kp, F.binds fun _ _ _ _ _ _ us hl => match us, hl with | [_, _], _ => rfl⟩⟩
abbrev s__law_take : Stmt := topS 23
abbrev N__law_take : List Str := ["_law_state_here", "_law_far", "_law_found", "_law_stirred"]
theorem sc__law_take : FnScope N__law_take ["_law_state_here", "_law_far"] (defScope s__law_take) := ⟨rfl, rfl, rfl, by decide +kernel, rfl, by decide +kernel, by decide +kernel⟩
abbrev Q__law_take (P : Program) (w : World) (K : PySem.W.Frag) (mg : Str → Option Value) (base : Heap) (TT : List (Addr × Str)) : Prop := Cal P w K mg base "_law_take" 1 ["_law_state_here", "_law_far"] (spOf K mg TT false [true, false] m__law_take)
theorem own__law_take {f : Addr} {fd : FuncData} (T : Tx K mg) (F : Fun K "_law_take" "_law_take" s__law_take f fd) : FnG P w K mg base (L2.CX P w) 1 f fd ["_law_state_here", "_law_far"] (spOf K mg TT false [true, false] m__law_take) := by
  refine fnD false [true, false] F sc__law_take rfl ?_
  intro cdv hcv A outer s H E C hT hW hgd hr
  have tk := takes_of (X := cxOf (L2.CX P w) P w K mg base N__law_take "_law_take" (defScope s__law_take) f cdv A outer s H E) (E := E) rfl rfl rfl rfl
  have hp := passes_of (X := cxOf (L2.CX P w) P w K mg base N__law_take "_law_take" (defScope s__law_take) f cdv A outer s H E) rfl
  exact (fss_cons (fs_if (ft_cmp o_gt (fe_ix i_ix (fe_var 0) fe_int (fun _ _ => rfl)) fe_int (nomark _)) (fss_cons (fs_set (i := 2) sc__law_take.nd rfl (by first | exact Or.inl rfl | exact Or.inr rfl) (fe_op o_mod (fe_ix i_ix (fe_var 0) fe_int (fun _ _ => rfl)) (fe_var 1)))
      (fss_cons (fs_put (fe_var 0) fe_int (fe_op o_div (fe_ix i_ix (fe_var 0) fe_int (fun _ _ => rfl)) (fe_var 1)))
      (fss_one (fs_ret (fe_var 2))))) fss_nil)
      (fss_cons (fs_put (fe_var 0) fe_int (fe_op o_mod (fe_op o_add (fe_op o_mul (fe_ix i_ix (fe_var 0) fe_int (fun _ _ => rfl)) fe_int) fe_int) fe_int))
      (fss_cons (fs_set (i := 3) sc__law_take.nd rfl (by first | exact Or.inl rfl | exact Or.inr rfl) (fe_op o_mod (fe_op o_add (fe_op o_add (fe_op o_mul (fe_ix i_ix (fe_var 0) fe_int (fun _ _ => rfl)) (fe_ix i_ix (fe_var 0) fe_int (fun _ _ => rfl))) (fe_op o_mul fe_int (fe_ix i_ix (fe_var 0) fe_int (fun _ _ => rfl)))) fe_int) fe_int))
      (fss_cons (fs_set (i := 3) sc__law_take.nd rfl (by first | exact Or.inl rfl | exact Or.inr rfl) (fe_op o_mod (fe_op o_add (fe_op o_mul (fe_var 3) (fe_var 3)) (fe_op o_mul fe_int (fe_var 3))) fe_int))
      (fss_one (fs_ret (fe_op o_mod (fe_op o_div (fe_var 3) fe_int) (fe_var 1))))))))
theorem ok__law_take {f : Addr} {fd : FuncData} (T : Tx K mg) (F : Fun K "_law_take" "_law_take" s__law_take f fd) (hm : mg "_law_take" = some (.ref f)) : Q__law_take P w K mg base TT :=
  ⟨⟨f, fd, own__law_take T F, hm, F.kp, F.binds fun _ _ _ _ _ _ us hl => match us, hl with | [_, _], _ => rfl⟩⟩
abbrev s__law_net : Stmt := topS 24
abbrev N__law_net : List Str := ["_law_state_here", "_law_most", "_law_far", "_law_places", "_law_roads", "_law_turn", "_law_one", "_law_other", "_law_cost", "_law_time"]
theorem sc__law_net : FnScope N__law_net ["_law_state_here", "_law_most", "_law_far"] (defScope s__law_net) := ⟨rfl, rfl, rfl, by decide +kernel, rfl, by decide +kernel, by decide +kernel⟩
abbrev Q__law_net (P : Program) (w : World) (K : PySem.W.Frag) (mg : Str → Option Value) (base : Heap) (TT : List (Addr × Str)) : Prop := Cal P w K mg base "_law_net" 2 ["_law_state_here", "_law_most", "_law_far"] (spOf K mg TT false [true, false, false] m__law_net)
theorem own__law_net {f : Addr} {fd : FuncData} (T : Tx K mg) (g__law_take : Q__law_take P w K mg base TT) (F : Fun K "_law_net" "_law_net" s__law_net f fd) : FnG P w K mg base (L2.CX P w) 2 f fd ["_law_state_here", "_law_most", "_law_far"] (spOf K mg TT false [true, false, false] m__law_net) := by
  obtain ⟨f__law_take, fd__law_take, G__law_take, mg__law_take, kp__law_take, b__law_take⟩ := g__law_take.ex
  refine fnD false [true, false, false] F sc__law_net rfl ?_
  intro cdv hcv A outer s H E C hT hW hgd hr
  have tk := takes_of (X := cxOf (L2.CX P w) P w K mg base N__law_net "_law_net" (defScope s__law_net) f cdv A outer s H E) (E := E) rfl rfl rfl rfl
  have hp := passes_of (X := cxOf (L2.CX P w) P w K mg base N__law_net "_law_net" (defScope s__law_net) f cdv A outer s H E) rfl
  exact (fss_cons (fs_par (i := 3) (j := 4) rfl sc__law_net.nd rfl rfl (by decide) rfl rfl (fa_cons (fe_op o_add fe_int (fe_call G__law_take hT hgd (hr.mono (by decide : 1 ≤ 1)) tk (by rfl) mg__law_take kp__law_take b__law_take (fa_cons (fe_var 0) (fa_cons (fe_var 1) fa_nil)))) (fa_cons (fe_new fa_nil) fa_nil)) (by rfl))
      (fss_cons (fs_for hp rfl (fi_rng1 (by rfl) T.n_range (fa_cons (fe_op o_mul (fe_call G__law_take hT hgd (hr.mono (by decide : 1 ≤ 1)) tk (by rfl) mg__law_take kp__law_take b__law_take (fa_cons (fe_var 0) (fa_cons (fe_op o_add (fe_var 2) fe_int) fa_nil))) (fe_callTy c_int (by rfl) T.n_int (by decide +kernel) (fa_cons (fe_cmp o_gt (fe_var 3) fe_int (nomark _)) fa_nil))) fa_nil)) (fg_nm sc__law_net.nd rfl (by first | exact Or.inl rfl | exact Or.inr rfl)) (fss_cons (fs_set (i := 6) sc__law_net.nd rfl (by first | exact Or.inl rfl | exact Or.inr rfl) (fe_ix i_ix (fe_lst (fa_cons (fe_call G__law_take hT hgd (hr.mono (by decide : 1 ≤ 1)) tk (by rfl) mg__law_take kp__law_take b__law_take (fa_cons (fe_var 0) (fa_cons (fe_var 3) fa_nil))) (fa_cons (fe_callB (c_min2 rfl) (by rfl) T.n_min (by decide +kernel) (fa_cons (fe_var 5) (fa_cons (fe_op o_sub (fe_var 3) fe_int) fa_nil))) fa_nil))) (fe_call G__law_take hT hgd (hr.mono (by decide : 1 ≤ 1)) tk (by rfl) mg__law_take kp__law_take b__law_take (fa_cons (fe_var 0) (fa_cons fe_int fa_nil))) (fun _ _ => rfl)))
      (fss_cons (fs_set (i := 7) sc__law_net.nd rfl (by first | exact Or.inl rfl | exact Or.inr rfl) (fe_op o_mod (fe_op o_add (fe_op o_add (fe_var 6) fe_int) (fe_ix i_ix (fe_lst (fa_cons fe_int (fa_cons (fe_call G__law_take hT hgd (hr.mono (by decide : 1 ≤ 1)) tk (by rfl) mg__law_take kp__law_take b__law_take (fa_cons (fe_var 0) (fa_cons (fe_op o_sub (fe_var 3) fe_int) fa_nil))) fa_nil))) (fe_call G__law_take hT hgd (hr.mono (by decide : 1 ≤ 1)) tk (by rfl) mg__law_take kp__law_take b__law_take (fa_cons (fe_var 0) (fa_cons fe_int fa_nil))) (fun _ _ => rfl))) (fe_var 3)))
      (fss_cons (fs_set (i := 8) sc__law_net.nd rfl (by first | exact Or.inl rfl | exact Or.inr rfl) (fe_ix i_ix (fe_lst (fa_cons (fe_op o_add fe_int (fe_call G__law_take hT hgd (hr.mono (by decide : 1 ≤ 1)) tk (by rfl) mg__law_take kp__law_take b__law_take (fa_cons (fe_var 0) (fa_cons fe_int fa_nil)))) (fa_cons (fe_op o_add fe_int (fe_call G__law_take hT hgd (hr.mono (by decide : 1 ≤ 1)) tk (by rfl) mg__law_take kp__law_take b__law_take (fa_cons (fe_var 0) (fa_cons fe_int fa_nil)))) (fa_cons fe_int fa_nil)))) (fe_call G__law_take hT hgd (hr.mono (by decide : 1 ≤ 1)) tk (by rfl) mg__law_take kp__law_take b__law_take (fa_cons (fe_var 0) (fa_cons fe_int fa_nil))) (fun _ _ => rfl)))
      (fss_cons (fs_set (i := 9) sc__law_net.nd rfl (by first | exact Or.inl rfl | exact Or.inr rfl) (fe_ix i_ix (fe_lst (fa_cons (fe_call G__law_take hT hgd (hr.mono (by decide : 1 ≤ 1)) tk (by rfl) mg__law_take kp__law_take b__law_take (fa_cons (fe_var 0) (fa_cons fe_int fa_nil))) (fa_cons (fe_call G__law_take hT hgd (hr.mono (by decide : 1 ≤ 1)) tk (by rfl) mg__law_take kp__law_take b__law_take (fa_cons (fe_var 0) (fa_cons fe_int fa_nil))) (fa_cons fe_int fa_nil)))) (fe_call G__law_take hT hgd (hr.mono (by decide : 1 ≤ 1)) tk (by rfl) mg__law_take kp__law_take b__law_take (fa_cons (fe_var 0) (fa_cons fe_int fa_nil))) (fun _ _ => rfl)))
      (fss_one (fs_exp (fe_mt PySem.F.slot_list_append PySem.F.type_list_append m_append (fe_var 4) (fa_cons (fe_tup (fa_cons (fe_var 6) (fa_cons (fe_var 7) (fa_cons (fe_var 8) (fa_cons (fe_var 9) fa_nil))))) fa_nil)))))))))
      (fss_one (fs_ret (fe_tup (fa_cons (fe_var 3) (fa_cons (fe_callTy c_tuple (by rfl) T.n_tuple (by decide +kernel) (fa_cons (fe_var 4) fa_nil)) fa_nil)))))))
theorem ok__law_net {f : Addr} {fd : FuncData} (T : Tx K mg) (g__law_take : Q__law_take P w K mg base TT) (F : Fun K "_law_net" "_law_net" s__law_net f fd) (hm : mg "_law_net" = some (.ref f)) : Q__law_net P w K mg base TT :=
  ⟨⟨f, fd, own__law_net T g__law_take F, hm, F.kp, F.binds fun _ _ _ _ _ _ us hl => match us, hl with | [_, _, _], _ => rfl⟩⟩
abbrev s__law_pairs : Stmt := topS 25
abbrev N__law_pairs : List Str := ["_law_net_here", "_law_start", "_law_found", "_law_rows", "_law_cost", "_law_time", "_law_place", "_law_one", "_law_other", "_law_more", "_law_longer", "_law_row"]
theorem sc__law_pairs : FnScope N__law_pairs ["_law_net_here", "_law_start"] (defScope s__law_pairs) := ⟨rfl, rfl, rfl, by decide +kernel, rfl, by decide +kernel, by decide +kernel⟩
abbrev Q__law_pairs (P : Program) (w : World) (K : PySem.W.Frag) (mg : Str → Option Value) (base : Heap) (TT : List (Addr × Str)) : Prop := Cal P w K mg base "_law_pairs" 1 ["_law_net_here", "_law_start"] (spOf K mg TT false [false, false] m__law_pairs)
theorem own__law_pairs {f : Addr} {fd : FuncData} (T : Tx K mg) (F : Fun K "_law_pairs" "_law_pairs" s__law_pairs f fd) : FnG P w K mg base (L2.CX P w) 1 f fd ["_law_net_here", "_law_start"] (spOf K mg TT false [false, false] m__law_pairs) := by
  refine fnD false [false, false] F sc__law_pairs rfl ?_
  intro cdv hcv A outer s H E C hT hW hgd hr
  have tk := takes_of (X := cxOf (L2.CX P w) P w K mg base N__law_pairs "_law_pairs" (defScope s__law_pairs) f cdv A outer s H E) (E := E) rfl rfl rfl rfl
  have hp := passes_of (X := cxOf (L2.CX P w) P w K mg base N__law_pairs "_law_pairs" (defScope s__law_pairs) f cdv A outer s H E) rfl
  exact (fss_cons (fs_par (i := 2) (j := 3) rfl sc__law_pairs.nd rfl rfl (by decide) rfl rfl (fa_cons (fe_compE (own := [("_law_place", 6)]) (i := 6) rfl sc__law_pairs.nd (fi_rng1 (by rfl) T.n_range (fa_cons (fe_ix i_ix (fe_var 0) fe_int (fun _ _ => rfl)) fa_nil)) (blkOk_by (own := [("_law_place", 6)]) (N := N__law_pairs) (sc := defScope s__law_pairs) (by decide +kernel)) (fun _ _ _ _ _ => (fg_nm sc__law_pairs.nd rfl (by first | exact Or.inl rfl | exact Or.inr rfl)))) (fa_cons (fe_new (fa_cons (fe_tup (fa_cons fe_int (fa_cons fe_int (fa_cons (fe_var 1) fa_nil)))) fa_nil)) fa_nil)) (by rfl))
      (fss_cons (fs_while 1000000 hp (ft_cmp (o_ne hr.units) (fe_var 3) (fe_lst fa_nil) (nomark _)) (fss_cons (fs_asg (fe_callB (c_minL rfl hr.u65) (by rfl) T.n_min (by decide +kernel) (fa_cons (fe_var 3) fa_nil)) (fg_tp rfl (fgs_cons (fg_nm sc__law_pairs.nd rfl (by first | exact Or.inl rfl | exact Or.inr rfl)) (fgs_cons (fg_nm sc__law_pairs.nd rfl (by first | exact Or.inl rfl | exact Or.inr rfl)) (fgs_cons (fg_nm sc__law_pairs.nd rfl (by first | exact Or.inl rfl | exact Or.inr rfl)) fgs_nil)))))
      (fss_cons (fs_exp (fe_mt PySem.F.slot_list_remove PySem.F.type_list_remove (m_remove hr.u65) (fe_var 3) (fa_cons (fe_tup (fa_cons (fe_var 4) (fa_cons (fe_var 5) (fa_cons (fe_var 6) fa_nil)))) fa_nil)))
      (fss_one (fs_if (ft_cmp (o_eq hr.units) (fe_compI (own := [("_law_one", 7)]) rfl sc__law_pairs.nd (fe_ixI (fe_var 2) (fe_var 6) (fun _ _ => rfl)) (blkOk_by (own := [("_law_one", 7)]) (N := N__law_pairs) (sc := defScope s__law_pairs) (by decide +kernel)) (fun _ _ _ _ _ => (fg_nm sc__law_pairs.nd rfl (by first | exact Or.inl rfl | exact Or.inr rfl))) (fun _ hT1 _ _ _ _ _ => (fts_one (ft_w (fw_and (ft_cmp o_le (fe_ix i_ix (fe_var 7) fe_int (fun _ _ => rfl)) (fe_var 4) (nomark _)) (fw_and1 (ft_cmp o_le (fe_ix i_ix (fe_var 7) fe_int (fun _ _ => rfl)) (fe_var 5) (nomark _))))))) (fun _ hT1 _ _ _ _ _ => (fe_var 7))) (fe_lst fa_nil) (nomark _)) (fss_cons (fs_exp (fe_mt PySem.F.slot_list_append PySem.F.type_list_append m_appI (fe_ixI (fe_var 2) (fe_var 6) (fun _ _ => rfl)) (fa_cons (fe_tup (fa_cons (fe_var 4) (fa_cons (fe_var 5) fa_nil))) fa_nil)))
      (fss_one (fs_for hp rfl (fi_seq (fe_ix i_ix (fe_var 0) fe_int (fun _ _ => rfl))) (fg_tp rfl (fgs_cons (fg_nm sc__law_pairs.nd rfl (by first | exact Or.inl rfl | exact Or.inr rfl)) (fgs_cons (fg_nm sc__law_pairs.nd rfl (by first | exact Or.inl rfl | exact Or.inr rfl)) (fgs_cons (fg_nm sc__law_pairs.nd rfl (by first | exact Or.inl rfl | exact Or.inr rfl)) (fgs_cons (fg_nm sc__law_pairs.nd rfl (by first | exact Or.inl rfl | exact Or.inr rfl)) fgs_nil))))) (fss_one (fs_if (ft_cmp (o_eq hr.units) (fe_var 7) (fe_var 6) (nomark _)) (fss_one (fs_exp (fe_mt PySem.F.slot_list_append PySem.F.type_list_append m_append (fe_var 3) (fa_cons (fe_tup (fa_cons (fe_op o_add (fe_var 4) (fe_var 9)) (fa_cons (fe_op o_add (fe_var 5) (fe_var 10)) (fa_cons (fe_var 8) fa_nil)))) fa_nil)))) fss_nil))))) fss_nil)))))
      (fss_one (fs_frz (by rw [hW]; decide) (fs_ret (fe_callTy c_tuple (by rfl) T.n_tuple (by decide +kernel) (fa_cons (fe_comp (own := [("_law_row", 11)]) rfl sc__law_pairs.nd (fi_seq (fe_var 2)) (blkOk_by (own := [("_law_row", 11)]) (N := N__law_pairs) (sc := defScope s__law_pairs) (by decide +kernel)) (fun _ _ _ _ _ => (fg_nm sc__law_pairs.nd rfl (by first | exact Or.inl rfl | exact Or.inr rfl))) (fun _ hT1 _ _ _ _ _ => fts_nil) (fun _ hT1 _ _ _ _ _ => (fe_callTy c_tuple (by rfl) T.n_tuple (by decide +kernel) (fa_cons (fe_var 11) fa_nil)))) fa_nil)))))))
theorem ok__law_pairs {f : Addr} {fd : FuncData} (T : Tx K mg) (F : Fun K "_law_pairs" "_law_pairs" s__law_pairs f fd) (hm : mg "_law_pairs" = some (.ref f)) : Q__law_pairs P w K mg base TT :=
  ⟨⟨f, fd, own__law_pairs T F, hm, F.kp, F.binds fun _ _ _ _ _ _ us hl => match us, hl with | [_, _], _ => rfl⟩⟩
abbrev s_law : Stmt := topS 26
abbrev N_law : List Str := ["_law_script", "_law_k", "_law_state_here", "_law_net_here", "_law_kept", "_law_start", "_law_due", "_law_found"]
theorem sc_law : FnScope N_law ["_law_script"] (defScope s_law) := ⟨rfl, rfl, rfl, by decide +kernel, rfl, by decide +kernel, by decide +kernel⟩
abbrev Q_law (P : Program) (w : World) (K : PySem.W.Frag) (mg : Str → Option Value) (base : Heap) (TT : List (Addr × Str)) : Prop := Cal P w K mg base "law" 6 ["_law_script"] (spOf K mg TT false [false] m_law)
theorem own_law {f : Addr} {fd : FuncData} (T : Tx K mg) (g_fence_of : Q_fence_of P w K mg base TT) (g__law_state : Q__law_state P w K mg base TT) (g__law_take : Q__law_take P w K mg base TT) (g__law_net : Q__law_net P w K mg base TT) (g__law_pairs : Q__law_pairs P w K mg base TT) (F : Fun K "law" "law" s_law f fd) : FnG P w K mg base (L2.CX P w) 6 f fd ["_law_script"] (spOf K mg TT false [false] m_law) := by
  obtain ⟨f_fence_of, fd_fence_of, G_fence_of, mg_fence_of, kp_fence_of, b_fence_of⟩ := g_fence_of.ex
  obtain ⟨f__law_state, fd__law_state, G__law_state, mg__law_state, kp__law_state, b__law_state⟩ := g__law_state.ex
  obtain ⟨f__law_take, fd__law_take, G__law_take, mg__law_take, kp__law_take, b__law_take⟩ := g__law_take.ex
  obtain ⟨f__law_net, fd__law_net, G__law_net, mg__law_net, kp__law_net, b__law_net⟩ := g__law_net.ex
  obtain ⟨f__law_pairs, fd__law_pairs, G__law_pairs, mg__law_pairs, kp__law_pairs, b__law_pairs⟩ := g__law_pairs.ex
  refine fnD false [false] F sc_law rfl ?_
  intro cdv hcv A outer s H E C hT hW hgd hr
  have tk := takes_of (X := cxOf (L2.CX P w) P w K mg base N_law "law" (defScope s_law) f cdv A outer s H E) (E := E) rfl rfl rfl rfl
  have hp := passes_of (X := cxOf (L2.CX P w) P w K mg base N_law "law" (defScope s_law) f cdv A outer s H E) rfl
  exact (fss_cons (fs_if (ft_cmp (o_ne hr.units) (fe_call G_fence_of hT hgd (hr.mono (by decide : 5 ≤ 5)) tk (by rfl) mg_fence_of kp_fence_of b_fence_of (fa_cons (fe_tup (fa_cons fe_int (fa_cons (fe_tup (fa_cons (fe_tup (fa_cons fe_int (fa_cons fe_int (fa_cons fe_int (fa_cons fe_int fa_nil))))) (fa_cons (fe_tup (fa_cons fe_int (fa_cons fe_int (fa_cons fe_int (fa_cons fe_int fa_nil))))) (fa_cons (fe_tup (fa_cons fe_int (fa_cons fe_int (fa_cons fe_int (fa_cons fe_int fa_nil))))) fa_nil)))) fa_nil))) (fa_cons fe_int fa_nil))) (fe_tup (fa_cons (fe_tup (fa_cons (fe_tup (fa_cons fe_int (fa_cons fe_int fa_nil))) fa_nil)) (fa_cons (fe_tup (fa_cons (fe_tup (fa_cons fe_int (fa_cons fe_int fa_nil))) (fa_cons (fe_tup (fa_cons fe_int (fa_cons fe_int fa_nil))) fa_nil))) (fa_cons (fe_tup fa_nil) fa_nil)))) (nomark _)) (fss_one (fs_ret fe_bl)) fss_nil)
      (fss_cons (fs_for hp rfl (fi_rng1 (by rfl) T.n_range (fa_cons (fe_callB (c_max2 rfl) (by rfl) T.n_max (by decide +kernel) (fa_cons fe_int (fa_cons (fe_callB (c_min2 rfl) (by rfl) T.n_min (by decide +kernel) (fa_cons (fe_callB c_len (by rfl) T.n_len (by decide +kernel) (fa_cons (fe_var 0) fa_nil)) (fa_cons fe_int fa_nil))) fa_nil))) fa_nil)) (fg_nm sc_law.nd rfl (by first | exact Or.inl rfl | exact Or.inr rfl)) (fss_cons (fs_set (i := 2) sc_law.nd rfl (by first | exact Or.inl rfl | exact Or.inr rfl) (fe_callN G__law_state hT hgd (hr.mono (by decide : 2 ≤ 5)) tk (by rfl) mg__law_state kp__law_state b__law_state (fa_cons (fe_var 0) (fa_cons (fe_var 1) fa_nil))))
      (fss_cons (fs_set (i := 3) sc_law.nd rfl (by first | exact Or.inl rfl | exact Or.inr rfl) (fe_call G__law_net hT hgd (hr.mono (by decide : 2 ≤ 5)) tk (by rfl) mg__law_net kp__law_net b__law_net (fa_cons (fe_var 2) (fa_cons fe_int (fa_cons fe_int fa_nil)))))
      (fss_cons (fs_par (i := 4) (j := 5) rfl sc_law.nd rfl rfl (by decide) rfl rfl (fa_cons (fe_callB (c_reprX hgd hr.u65) (by rfl) T.n_repr (by decide +kernel) (fa_cons (fe_var 3) fa_nil)) (fa_cons (fe_call G__law_take hT hgd (hr.mono (by decide : 1 ≤ 5)) tk (by rfl) mg__law_take kp__law_take b__law_take (fa_cons (fe_var 2) (fa_cons (fe_ix i_ix (fe_var 3) fe_int (fun _ _ => rfl)) fa_nil))) fa_nil)) (by rfl))
      (fss_cons (fs_set (i := 6) sc_law.nd rfl (by first | exact Or.inl rfl | exact Or.inr rfl) (fe_call G__law_pairs hT hgd (hr.mono (by decide : 1 ≤ 5)) tk (by rfl) mg__law_pairs kp__law_pairs b__law_pairs (fa_cons (fe_var 3) (fa_cons (fe_var 5) fa_nil))))
      (fss_cons (fs_set (i := 7) sc_law.nd rfl (by first | exact Or.inl rfl | exact Or.inr rfl) (fe_lst (fa_cons (fe_call G_fence_of hT hgd (hr.mono (by decide : 5 ≤ 5)) tk (by rfl) mg_fence_of kp_fence_of b_fence_of (fa_cons (fe_var 3) (fa_cons (fe_var 5) fa_nil))) (fa_cons (fe_call G_fence_of hT hgd (hr.mono (by decide : 5 ≤ 5)) tk (by rfl) mg_fence_of kp_fence_of b_fence_of (fa_cons (fe_var 3) (fa_cons (fe_var 5) fa_nil))) fa_nil))))
      (fss_one (fs_if (ft_w (fw_or (ft_cmp (o_ne hr.units) (fe_callB (c_reprX hgd hr.u65) (by rfl) T.n_repr (by decide +kernel) (fa_cons (fe_var 7) fa_nil)) (fe_callB (c_reprX hgd hr.u65) (by rfl) T.n_repr (by decide +kernel) (fa_cons (fe_lst (fa_cons (fe_var 6) (fa_cons (fe_var 6) fa_nil))) fa_nil)) (nomark _)) (fw_or1 (ft_cmp (o_ne hr.units) (fe_callB (c_reprX hgd hr.u65) (by rfl) T.n_repr (by decide +kernel) (fa_cons (fe_var 3) fa_nil)) (fe_var 4) (nomark _))))) (fss_one (fs_ret fe_bl)) fss_nil))))))))
      (fss_one (fs_ret fe_bl))))
theorem ok_law {f : Addr} {fd : FuncData} (T : Tx K mg) (g_fence_of : Q_fence_of P w K mg base TT) (g__law_state : Q__law_state P w K mg base TT) (g__law_take : Q__law_take P w K mg base TT) (g__law_net : Q__law_net P w K mg base TT) (g__law_pairs : Q__law_pairs P w K mg base TT) (F : Fun K "law" "law" s_law f fd) (hm : mg "law" = some (.ref f)) : Q_law P w K mg base TT :=
  ⟨⟨f, fd, own_law T g_fence_of g__law_state g__law_take g__law_net g__law_pairs F, hm, F.kp, F.binds fun _ _ _ _ _ _ us hl => match us, hl with | [_], _ => rfl⟩⟩
end
end FL

namespace FL
open PySem PySem.Spec PyProof.Rows L2
def lams_ : List Str := []
theorem all_mk {P : Program} {w : World} {K : PySem.W.Frag} {h : Heap} {mg mb : Str → Option Value} {fa : Addr} {q : Program} {loose : List Str} {mean : ExcName → Option Value} (X0 : K.In h) (GT : PyProof.Rows.Top q loose mean mg mb h) (hfa : mg "law" = some (.ref fa))
    {f0 : Addr} {od0 an0 : Option Addr} {sl0 : Array (Option Value)} {oc0 kV0 dc0 pm0 cd0 ct0 : Value}
    {f1 : Addr} {od1 an1 : Option Addr} {sl1 : Array (Option Value)} {oc1 kV1 dc1 pm1 cd1 ct1 : Value}
    {f2 : Addr} {od2 an2 : Option Addr} {sl2 : Array (Option Value)} {oc2 kV2 dc2 pm2 cd2 ct2 : Value}
    {f3 : Addr} {od3 an3 : Option Addr} {sl3 : Array (Option Value)} {oc3 kV3 dc3 pm3 cd3 ct3 : Value}
    {f4 : Addr} {od4 an4 : Option Addr} {sl4 : Array (Option Value)} {oc4 kV4 dc4 pm4 cd4 ct4 : Value}
    {f5 : Addr} {od5 an5 : Option Addr} {sl5 : Array (Option Value)} {oc5 kV5 dc5 pm5 cd5 ct5 : Value}
    {f6 : Addr} {od6 an6 : Option Addr} {sl6 : Array (Option Value)} {oc6 kV6 dc6 pm6 cd6 ct6 : Value}
    {f7 : Addr} {od7 an7 : Option Addr} {sl7 : Array (Option Value)} {oc7 kV7 dc7 pm7 cd7 ct7 : Value}
    {f8 : Addr} {od8 an8 : Option Addr} {sl8 : Array (Option Value)} {oc8 kV8 dc8 pm8 cd8 ct8 : Value}
    {f9 : Addr} {od9 an9 : Option Addr} {sl9 : Array (Option Value)} {oc9 kV9 dc9 pm9 cd9 ct9 : Value}
    {f10 : Addr} {od10 an10 : Option Addr} {sl10 : Array (Option Value)} {oc10 kV10 dc10 pm10 cd10 ct10 : Value}
    {f11 : Addr} {od11 an11 : Option Addr} {sl11 : Array (Option Value)} {oc11 kV11 dc11 pm11 cd11 ct11 : Value}
    {f12 : Addr} {od12 an12 : Option Addr} {sl12 : Array (Option Value)} {oc12 kV12 dc12 pm12 cd12 ct12 : Value}
    {f13 : Addr} {od13 an13 : Option Addr} {sl13 : Array (Option Value)} {oc13 kV13 dc13 pm13 cd13 ct13 : Value}
    (a0 : PySem.W.nsIn K mainGlobals "is_among" = some (some (.ref f0))) (l0 : K.lookup f0 = some ⟨oc0, od0, .func (PySem.W.fnOf "is_among" "is_among" (defArgs s_is_among) (defBody s_is_among) (defScope s_is_among) .none kV0 dc0 pm0 an0 cd0 ct0), sl0⟩) (c0 : PySem.W.codeIn K cd0 "is_among" = true) (k0 : PySem.W.keepIn K (.ref f0) = true)
    (a1 : PySem.W.nsIn K mainGlobals "is_road" = some (some (.ref f1))) (l1 : K.lookup f1 = some ⟨oc1, od1, .func (PySem.W.fnOf "is_road" "is_road" (defArgs s_is_road) (defBody s_is_road) (defScope s_is_road) .none kV1 dc1 pm1 an1 cd1 ct1), sl1⟩) (c1 : PySem.W.codeIn K cd1 "is_road" = true) (k1 : PySem.W.keepIn K (.ref f1) = true)
    (a2 : PySem.W.nsIn K mainGlobals "is_net" = some (some (.ref f2))) (l2 : K.lookup f2 = some ⟨oc2, od2, .func (PySem.W.fnOf "is_net" "is_net" (defArgs s_is_net) (defBody s_is_net) (defScope s_is_net) .none kV2 dc2 pm2 an2 cd2 ct2), sl2⟩) (c2 : PySem.W.codeIn K cd2 "is_net" = true) (k2 : PySem.W.keepIn K (.ref f2) = true)
    (a3 : PySem.W.nsIn K mainGlobals "need_net" = some (some (.ref f3))) (l3 : K.lookup f3 = some ⟨oc3, od3, .func (PySem.W.fnOf "need_net" "need_net" (defArgs s_need_net) (defBody s_need_net) (defScope s_need_net) .none kV3 dc3 pm3 an3 cd3 ct3), sl3⟩) (c3 : PySem.W.codeIn K cd3 "need_net" = true) (k3 : PySem.W.keepIn K (.ref f3) = true)
    (a4 : PySem.W.nsIn K mainGlobals "is_place" = some (some (.ref f4))) (l4 : K.lookup f4 = some ⟨oc4, od4, .func (PySem.W.fnOf "is_place" "is_place" (defArgs s_is_place) (defBody s_is_place) (defScope s_is_place) .none kV4 dc4 pm4 an4 cd4 ct4), sl4⟩) (c4 : PySem.W.codeIn K cd4 "is_place" = true) (k4 : PySem.W.keepIn K (.ref f4) = true)
    (a5 : PySem.W.nsIn K mainGlobals "need_place" = some (some (.ref f5))) (l5 : K.lookup f5 = some ⟨oc5, od5, .func (PySem.W.fnOf "need_place" "need_place" (defArgs s_need_place) (defBody s_need_place) (defScope s_need_place) .none kV5 dc5 pm5 an5 cd5 ct5), sl5⟩) (c5 : PySem.W.codeIn K cd5 "need_place" = true) (k5 : PySem.W.keepIn K (.ref f5) = true)
    (a6 : PySem.W.nsIn K mainGlobals "pairs_from" = some (some (.ref f6))) (l6 : K.lookup f6 = some ⟨oc6, od6, .func (PySem.W.fnOf "pairs_from" "pairs_from" (defArgs s_pairs_from) (defBody s_pairs_from) (defScope s_pairs_from) .none kV6 dc6 pm6 an6 cd6 ct6), sl6⟩) (c6 : PySem.W.codeIn K cd6 "pairs_from" = true) (k6 : PySem.W.keepIn K (.ref f6) = true)
    (a7 : PySem.W.nsIn K mainGlobals "fence_of" = some (some (.ref f7))) (l7 : K.lookup f7 = some ⟨oc7, od7, .func (PySem.W.fnOf "fence_of" "fence_of" (defArgs s_fence_of) (defBody s_fence_of) (defScope s_fence_of) .none kV7 dc7 pm7 an7 cd7 ct7), sl7⟩) (c7 : PySem.W.codeIn K cd7 "fence_of" = true) (k7 : PySem.W.keepIn K (.ref f7) = true)
    (a8 : PySem.W.nsIn K mainGlobals "_law_cell_at" = some (some (.ref f8))) (l8 : K.lookup f8 = some ⟨oc8, od8, .func (PySem.W.fnOf "_law_cell_at" "_law_cell_at" (defArgs s__law_cell_at) (defBody s__law_cell_at) (defScope s__law_cell_at) .none kV8 dc8 pm8 an8 cd8 ct8), sl8⟩) (c8 : PySem.W.codeIn K cd8 "_law_cell_at" = true) (k8 : PySem.W.keepIn K (.ref f8) = true)
    (a9 : PySem.W.nsIn K mainGlobals "_law_state" = some (some (.ref f9))) (l9 : K.lookup f9 = some ⟨oc9, od9, .func (PySem.W.fnOf "_law_state" "_law_state" (defArgs s__law_state) (defBody s__law_state) (defScope s__law_state) .none kV9 dc9 pm9 an9 cd9 ct9), sl9⟩) (c9 : PySem.W.codeIn K cd9 "_law_state" = true) (k9 : PySem.W.keepIn K (.ref f9) = true)
    (a10 : PySem.W.nsIn K mainGlobals "_law_take" = some (some (.ref f10))) (l10 : K.lookup f10 = some ⟨oc10, od10, .func (PySem.W.fnOf "_law_take" "_law_take" (defArgs s__law_take) (defBody s__law_take) (defScope s__law_take) .none kV10 dc10 pm10 an10 cd10 ct10), sl10⟩) (c10 : PySem.W.codeIn K cd10 "_law_take" = true) (k10 : PySem.W.keepIn K (.ref f10) = true)
    (a11 : PySem.W.nsIn K mainGlobals "_law_net" = some (some (.ref f11))) (l11 : K.lookup f11 = some ⟨oc11, od11, .func (PySem.W.fnOf "_law_net" "_law_net" (defArgs s__law_net) (defBody s__law_net) (defScope s__law_net) .none kV11 dc11 pm11 an11 cd11 ct11), sl11⟩) (c11 : PySem.W.codeIn K cd11 "_law_net" = true) (k11 : PySem.W.keepIn K (.ref f11) = true)
    (a12 : PySem.W.nsIn K mainGlobals "_law_pairs" = some (some (.ref f12))) (l12 : K.lookup f12 = some ⟨oc12, od12, .func (PySem.W.fnOf "_law_pairs" "_law_pairs" (defArgs s__law_pairs) (defBody s__law_pairs) (defScope s__law_pairs) .none kV12 dc12 pm12 an12 cd12 ct12), sl12⟩) (c12 : PySem.W.codeIn K cd12 "_law_pairs" = true) (k12 : PySem.W.keepIn K (.ref f12) = true)
    (a13 : PySem.W.nsIn K mainGlobals "law" = some (some (.ref f13))) (l13 : K.lookup f13 = some ⟨oc13, od13, .func (PySem.W.fnOf "law" "law" (defArgs s_law) (defBody s_law) (defScope s_law) .none kV13 dc13 pm13 an13 cd13 ct13), sl13⟩) (c13 : PySem.W.codeIn K cd13 "law" = true) (k13 : PySem.W.keepIn K (.ref f13) = true)
    (z_all : PySem.W.nsIn K mainGlobals "all" = some none)
    (z_bool : PySem.W.nsIn K mainGlobals "bool" = some none)
    (z_int : PySem.W.nsIn K mainGlobals "int" = some none)
    (z_isinstance : PySem.W.nsIn K mainGlobals "isinstance" = some none)
    (z_len : PySem.W.nsIn K mainGlobals "len" = some none)
    (z_max : PySem.W.nsIn K mainGlobals "max" = some none)
    (z_min : PySem.W.nsIn K mainGlobals "min" = some none)
    (z_range : PySem.W.nsIn K mainGlobals "range" = some none)
    (z_repr : PySem.W.nsIn K mainGlobals "repr" = some none)
    (z_sorted : PySem.W.nsIn K mainGlobals "sorted" = some none)
    (z_tuple : PySem.W.nsIn K mainGlobals "tuple" = some none)
    (y_MOST_COST : ∃ t, PySem.W.nsIn K mainGlobals "MOST_COST" = some (some (.int 99 t)))
    (y_MOST_PLACES : ∃ t, PySem.W.nsIn K mainGlobals "MOST_PLACES" = some (some (.int 10 t)))
    (y_MOST_ROADS : ∃ t, PySem.W.nsIn K mainGlobals "MOST_ROADS" = some (some (.int 30 t)))
    (y_MOST_TIME : ∃ t, PySem.W.nsIn K mainGlobals "MOST_TIME" = some (some (.int 99 t)))
    (xb_NoNet : clsB K "NoNet" = true)
    (xb_NoPlace : clsB K "NoPlace" = true)
    : ∃ (fd : FuncData) (cs : List (Addr × Addr)) (TT : List (Addr × Str)), (∀ (s : Shared) (v : Value), BindsTo s fd ⟨[v], []⟩ [("_law_script", v)]) ∧ TabsAt h K cs ∧ (∀ p ∈ TT, p.1 ∈ cs.map (·.2)) ∧ ∀ base : Heap, K.In base → base.Ns mainGlobals mg → base.NoDigits → (∀ p ∈ cs, LamX.TabB base mg p.1 p.2) → FnG P w K mg base (L2.CX P w) 6 fa fd ["_law_script"] (spOf K mg TT false [false] m_law) := by
  have G := GT.g
  have e := hfa.symm.trans (PySem.W.mg_of X0 G a13)
  cases e
  have T : Tx K mg := {
    n_all := PySem.W.mg_none_of X0 G z_all
    n_bool := PySem.W.mg_none_of X0 G z_bool
    n_int := PySem.W.mg_none_of X0 G z_int
    n_isinstance := PySem.W.mg_none_of X0 G z_isinstance
    n_len := PySem.W.mg_none_of X0 G z_len
    n_max := PySem.W.mg_none_of X0 G z_max
    n_min := PySem.W.mg_none_of X0 G z_min
    n_range := PySem.W.mg_none_of X0 G z_range
    n_repr := PySem.W.mg_none_of X0 G z_repr
    n_sorted := PySem.W.mg_none_of X0 G z_sorted
    n_tuple := PySem.W.mg_none_of X0 G z_tuple
    c_MOST_COST := let ⟨t, e⟩ := y_MOST_COST; ⟨t, PySem.W.mg_of X0 G e⟩
    c_MOST_PLACES := let ⟨t, e⟩ := y_MOST_PLACES; ⟨t, PySem.W.mg_of X0 G e⟩
    c_MOST_ROADS := let ⟨t, e⟩ := y_MOST_ROADS; ⟨t, PySem.W.mg_of X0 G e⟩
    c_MOST_TIME := let ⟨t, e⟩ := y_MOST_TIME; ⟨t, PySem.W.mg_of X0 G e⟩
    x_NoNet := clsB_ok X0 G xb_NoNet
    x_NoPlace := clsB_ok X0 G xb_NoPlace }
  refine ⟨PySem.W.fnOf "law" "law" (defArgs s_law) (defBody s_law) (defScope s_law) .none kV13 dc13 pm13 an13 cd13 ct13, [], tabT K lams_, fun s v => .of_eq rfl, ⟨fun _ z => (nomatch z), fun _ z => (nomatch z), fun _ z => (nomatch z)⟩, fun _ z => (nomatch z), fun base _ _ _ TB => ?_⟩
  have g_is_among : Q_is_among P w K mg base (tabT K lams_) := ok_is_among T  (fun_mk (st := s_is_among) l0 c0 k0) (PySem.W.mg_of X0 G a0)
  have g_is_road : Q_is_road P w K mg base (tabT K lams_) := ok_is_road T g_is_among (fun_mk (st := s_is_road) l1 c1 k1) (PySem.W.mg_of X0 G a1)
  have g_is_net : Q_is_net P w K mg base (tabT K lams_) := ok_is_net T g_is_among g_is_road (fun_mk (st := s_is_net) l2 c2 k2) (PySem.W.mg_of X0 G a2)
  have g_need_net : Q_need_net P w K mg base (tabT K lams_) := ok_need_net T g_is_net (fun_mk (st := s_need_net) l3 c3 k3) (PySem.W.mg_of X0 G a3)
  have g_is_place : Q_is_place P w K mg base (tabT K lams_) := ok_is_place T g_is_among (fun_mk (st := s_is_place) l4 c4 k4) (PySem.W.mg_of X0 G a4)
  have g_need_place : Q_need_place P w K mg base (tabT K lams_) := ok_need_place T g_is_place (fun_mk (st := s_need_place) l5 c5 k5) (PySem.W.mg_of X0 G a5)
  have g_pairs_from : Q_pairs_from P w K mg base (tabT K lams_) := ok_pairs_from T  (fun_mk (st := s_pairs_from) l6 c6 k6) (PySem.W.mg_of X0 G a6)
  have g_fence_of : Q_fence_of P w K mg base (tabT K lams_) := ok_fence_of T g_need_net g_need_place g_pairs_from (fun_mk (st := s_fence_of) l7 c7 k7) (PySem.W.mg_of X0 G a7)
  have g__law_cell_at : Q__law_cell_at P w K mg base (tabT K lams_) := ok__law_cell_at T  (fun_mk (st := s__law_cell_at) l8 c8 k8) (PySem.W.mg_of X0 G a8)
  have g__law_state : Q__law_state P w K mg base (tabT K lams_) := ok__law_state T g__law_cell_at (fun_mk (st := s__law_state) l9 c9 k9) (PySem.W.mg_of X0 G a9)
  have g__law_take : Q__law_take P w K mg base (tabT K lams_) := ok__law_take T  (fun_mk (st := s__law_take) l10 c10 k10) (PySem.W.mg_of X0 G a10)
  have g__law_net : Q__law_net P w K mg base (tabT K lams_) := ok__law_net T g__law_take (fun_mk (st := s__law_net) l11 c11 k11) (PySem.W.mg_of X0 G a11)
  have g__law_pairs : Q__law_pairs P w K mg base (tabT K lams_) := ok__law_pairs T  (fun_mk (st := s__law_pairs) l12 c12 k12) (PySem.W.mg_of X0 G a12)
  exact own_law T g_fence_of g__law_state g__law_take g__law_net g__law_pairs (fun_mk (st := s_law) l13 c13 k13)
end FL

open PySem PySem.W PyProof.Rows
set_option maxHeartbeats 0 in
theorem PySem.Challenge.cw_waysranked_k52_least_fences_holds : PySem.Challenge.rw_waysranked_k52_least_fences.Holds := by
  w_on; o_law; k_head; (case hw => w_witness2)
  k_fill
  refine FL.walkG (l := PySem.Challenge.rw_waysranked_k52_least_fences) (n := 63) (k := 6) (x := "_law_script") (fr := false) (m := FL.m_law) rfl (by decide) rfl ⟨rfl, by decide, by decide⟩ (fun w h Y => by first | exact PySem.W.kIn_of Y | exact PySem.W.km_in_of Y) ?F FL.law_true
  case F =>
    intro w mg mb mean fa h Y KX G hmg
    refine' FL.all_mk KX G hmg ?a0 ?l0 ?c0 ?k0 ?a1 ?l1 ?c1 ?k1 ?a2 ?l2 ?c2 ?k2 ?a3 ?l3 ?c3 ?k3 ?a4 ?l4 ?c4 ?k4 ?a5 ?l5 ?c5 ?k5 ?a6 ?l6 ?c6 ?k6 ?a7 ?l7 ?c7 ?k7 ?a8 ?l8 ?c8 ?k8 ?a9 ?l9 ?c9 ?k9 ?a10 ?l10 ?c10 ?k10 ?a11 ?l11 ?c11 ?k11 ?a12 ?l12 ?c12 ?k12 ?a13 ?l13 ?c13 ?k13 ?z_all ?z_bool ?z_int ?z_isinstance ?z_len ?z_max ?z_min ?z_range ?z_repr ?z_sorted ?z_tuple ?y_MOST_COST ?y_MOST_PLACES ?y_MOST_ROADS ?y_MOST_TIME ?xb_NoNet ?xb_NoPlace
    (case a0 => k_is)
    (case l0 => k_is)
    (case c0 => k_is)
    (case k0 => k_is)
    (case a1 => k_is)
    (case l1 => k_is)
    (case c1 => k_is)
    (case k1 => k_is)
    (case a2 => k_is)
    (case l2 => k_is)
    (case c2 => k_is)
    (case k2 => k_is)
    (case a3 => k_is)
    (case l3 => k_is)
    (case c3 => k_is)
    (case k3 => k_is)
    (case a4 => k_is)
    (case l4 => k_is)
    (case c4 => k_is)
    (case k4 => k_is)
    (case a5 => k_is)
    (case l5 => k_is)
    (case c5 => k_is)
    (case k5 => k_is)
    (case a6 => k_is)
    (case l6 => k_is)
    (case c6 => k_is)
    (case k6 => k_is)
    (case a7 => k_is)
    (case l7 => k_is)
    (case c7 => k_is)
    (case k7 => k_is)
    (case a8 => k_is)
    (case l8 => k_is)
    (case c8 => k_is)
    (case k8 => k_is)
    (case a9 => k_is)
    (case l9 => k_is)
    (case c9 => k_is)
    (case k9 => k_is)
    (case a10 => k_is)
    (case l10 => k_is)
    (case c10 => k_is)
    (case k10 => k_is)
    (case a11 => k_is)
    (case l11 => k_is)
    (case c11 => k_is)
    (case k11 => k_is)
    (case a12 => k_is)
    (case l12 => k_is)
    (case c12 => k_is)
    (case k12 => k_is)
    (case a13 => k_is)
    (case l13 => k_is)
    (case c13 => k_is)
    (case k13 => k_is)
    (case z_all => k_is)
    (case z_bool => k_is)
    (case z_int => k_is)
    (case z_isinstance => k_is)
    (case z_len => k_is)
    (case z_max => k_is)
    (case z_min => k_is)
    (case z_range => k_is)
    (case z_repr => k_is)
    (case z_sorted => k_is)
    (case z_tuple => k_is)
    (case y_MOST_COST => exact ⟨_, by k_is⟩)
    (case y_MOST_PLACES => exact ⟨_, by k_is⟩)
    (case y_MOST_ROADS => exact ⟨_, by k_is⟩)
    (case y_MOST_TIME => exact ⟨_, by k_is⟩)
    (case xb_NoNet => kernel_rfl)
    (case xb_NoPlace => kernel_rfl)

