import PyProof.Rows.All
import HandS.ForMost
import HandS.IsInst
import HandS.Exc
import HandS.TupAny
import HandS.Style
import HandS.WordsExc
import PySem.Challenge.RW_waysranked_k25_whole_counts_join
set_option Elab.async false
set_option linter.all false
set_option autoImplicit false
set_option maxRecDepth 100000
set_option maxHeartbeats 4000000
/-! FL: a functional layer over the hand layer. Values are data (PyData) or places of a small local heap of lists that the def changes. -/
namespace FL
open PySem PySem.Spec PyProof.Rows L2
abbrev St := L2.St

/-! ### data -/
/-- what an expression gives: data, or the n-th object of the def's own -/
inductive Sl where
  | val (d : PyData)
  | loc (n : Nat)
abbrev Slot := Option Sl
/-- an object of the def's own -/
inductive Ob where
  | lst (ds : List PyData)
  | dic (kvs : List (Key × PyData))
/-- an exception: its class's name, its fields -/
structure Exn where
  cls : Str
  fs : List (Str × PyData)
abbrev Hs := List Ob
inductive Rz (α : Type) where
  | ok (a : α) (h : Hs)
  | err (x : Exn) (h : Hs)
  | bad
def Rz.bind {α β : Type} (r : Rz α) (f : α → Hs → Rz β) : Rz β := match r with
  | .ok a h => f a h
  | .err x h => .err x h
  | .bad => .bad
abbrev En := List Slot
abbrev Ev := En → Hs → Rz Sl
abbrev Tv := En → Hs → Rz Bool
abbrev Av := En → Hs → Rz (List Sl)
inductive Fl where
  | next (e : En) (h : Hs)
  | ret (s : Sl) (h : Hs)
  | brk (e : En) (h : Hs)
  | cont (e : En) (h : Hs)
  | err (x : Exn) (e : En) (h : Hs)
  | bad
abbrev Sv := En → Hs → Fl

/-! ### data in the abstract heap, none of whose objects is among M -/
abbrev Ms := Addr → Prop
def QL (K : PySem.W.Frag) (H : Hp) (M : Ms) (a : Addr) (xs : List V) : Prop :=
  (Rd H a (.lst xs) ∧ ¬ M a) ∨
    ∃ (o : Obj) (its : Array Value) (n : Nat), K.lookup a = some o ∧ o.cls = .type "list" ∧ o.dict = none ∧ o.data = .seq its n ∧ its.size ≤ sizeLine ∧ Vals xs its.toList
def QT (K : PySem.W.Frag) (H : Hp) (M : Ms) (a : Addr) (xs : List V) : Prop :=
  (Rd H a (.tup xs) ∧ ¬ M a) ∨
    ∃ (o : Obj) (its : Array Value) (n : Nat), K.lookup a = some o ∧ o.cls = .type "tuple" ∧ o.data = .seq its n ∧ its.size ≤ sizeLine ∧ Vals xs its.toList
theorem QL.sq {K : PySem.W.Frag} {H : Hp} {M : Ms} {a : Addr} {xs : List V} (h : QL K H M a xs) : SqL K H a xs := by
  rcases h with h | h
  · exact .inl h.1
  · exact .inr h
theorem QT.sq {K : PySem.W.Frag} {H : Hp} {M : Ms} {a : Addr} {xs : List V} (h : QT K H M a xs) : SqT K H a xs := by
  rcases h with h | h
  · exact .inl h.1
  · exact .inr h
mutual
inductive Rp (K : PySem.W.Frag) (H : Hp) (M : Ms) : V → PyData → Prop
  | non : Rp K H M .non .none
  | bl (b : Bool) : Rp K H M (.bl b) (.bool b)
  | int (i : Int) : Rp K H M (.int i) (.int i)
  | str (x : Str) : Rp K H M (.str x) (.str x)
  | lst {a : Addr} {xs : List V} {ds : List PyData} : QL K H M a xs → RpAll K H M xs ds → Rp K H M (.ref a) (.list ds)
  | tup {a : Addr} {xs : List V} {ds : List PyData} : QT K H M a xs → RpAll K H M xs ds → Rp K H M (.ref a) (.tuple ds)
inductive RpAll (K : PySem.W.Frag) (H : Hp) (M : Ms) : List V → List PyData → Prop
  | nil : RpAll K H M [] []
  | cons {v : V} {vs : List V} {d : PyData} {ds : List PyData} : Rp K H M v d → RpAll K H M vs ds → RpAll K H M (v :: vs) (d :: ds)
end
section
variable {K : PySem.W.Frag} {H H' : Hp} {M M' : Ms}
mutual
theorem Rp.map (f : ∀ a xs, QL K H M a xs → QL K H' M' a xs) (g : ∀ a xs, QT K H M a xs → QT K H' M' a xs) : ∀ (d : PyData) (v : V), Rp K H M v d → Rp K H' M' v d
  | .none, _, h => by cases h; exact .non
  | .bool b, _, h => by cases h; exact .bl b
  | .int i, _, h => by cases h; exact .int i
  | .str x, _, h => by cases h; exact .str x
  | .list ds, _, h => by
    cases h with
    | lst h1 h2 => exact .lst (f _ _ h1) (RpAll.map f g ds _ h2)
  | .tuple ds, _, h => by
    cases h with
    | tup h1 h2 => exact .tup (g _ _ h1) (RpAll.map f g ds _ h2)
  | .dict _, _, h => by cases h
theorem RpAll.map (f : ∀ a xs, QL K H M a xs → QL K H' M' a xs) (g : ∀ a xs, QT K H M a xs → QT K H' M' a xs) : ∀ (ds : List PyData) (vs : List V), RpAll K H M vs ds → RpAll K H' M' vs ds
  | [], _, h => by cases h; exact .nil
  | d :: ds, _, h => by
    cases h with
    | cons h1 h2 => exact .cons (Rp.map f g d _ h1) (RpAll.map f g ds _ h2)
end
mutual
theorem Rp.dp : ∀ (d : PyData) (v : V), Rp K H M v d → Dp K H v d
  | .none, _, h => by cases h; exact .non
  | .bool b, _, h => by cases h; exact .bl b
  | .int i, _, h => by cases h; exact .int i
  | .str x, _, h => by cases h; exact .str x
  | .list ds, _, h => by
    cases h with
    | lst h1 h2 => exact .lst h1.sq (RpAll.dp ds _ h2)
  | .tuple ds, _, h => by
    cases h with
    | tup h1 h2 => exact .tup h1.sq (RpAll.dp ds _ h2)
  | .dict _, _, h => by cases h
theorem RpAll.dp : ∀ (ds : List PyData) (vs : List V), RpAll K H M vs ds → DpAll K H vs ds
  | [], _, h => by cases h; exact .nil
  | d :: ds, _, h => by
    cases h with
    | cons h1 h2 => exact .cons (Rp.dp d _ h1) (RpAll.dp ds _ h2)
end
theorem RpAll.length : ∀ {vs : List V} {ds : List PyData}, RpAll K H M vs ds → vs.length = ds.length
  | _, _, .nil => rfl
  | _, _, .cons _ t => congrArg (· + 1) (RpAll.length t)
theorem RpAll.get : ∀ {vs : List V} {ds : List PyData} {i : Nat} {d : PyData}, RpAll K H M vs ds → ds[i]? = some d → ∃ v, vs[i]? = some v ∧ Rp K H M v d
  | _, _, _, _, .nil, e => by simp at e
  | _, _, 0, _, .cons r _, e => by simp at e; subst e; exact ⟨_, rfl, r⟩
  | _, _, i + 1, _, .cons _ t, e => by
    obtain ⟨v, h1, h2⟩ := RpAll.get (i := i) t (by simpa using e)
    exact ⟨v, by simpa using h1, h2⟩
theorem RpAll.set {v : V} {d : PyData} (r : Rp K H M v d) : ∀ {vs : List V} {ds : List PyData} (i : Nat), RpAll K H M vs ds → RpAll K H M (vs.set i v) (ds.set i d)
  | _, _, _, .nil => .nil
  | _, _, 0, .cons _ t => .cons r t
  | _, _, i + 1, .cons q t => .cons q (RpAll.set r i t)
theorem RpAll.append : ∀ {vs ws : List V} {ds es : List PyData}, RpAll K H M vs ds → RpAll K H M ws es → RpAll K H M (vs ++ ws) (ds ++ es)
  | _, _, _, _, .nil, s => s
  | _, _, _, _, .cons r t, s => .cons r (RpAll.append t s)
theorem RpAll.take : ∀ {vs : List V} {ds : List PyData} (n : Nat), RpAll K H M vs ds → RpAll K H M (vs.take n) (ds.take n)
  | _, _, 0, _ => .nil
  | _, _, _ + 1, .nil => .nil
  | _, _, n + 1, .cons r t => .cons r (RpAll.take n t)
theorem RpAll.drop : ∀ {vs : List V} {ds : List PyData} (n : Nat), RpAll K H M vs ds → RpAll K H M (vs.drop n) (ds.drop n)
  | _, _, 0, r => r
  | _, _, _ + 1, .nil => .nil
  | _, _, n + 1, .cons _ t => RpAll.drop n t
theorem RpAll.eraseIdx : ∀ {vs : List V} {ds : List PyData} (n : Nat), RpAll K H M vs ds → RpAll K H M (vs.eraseIdx n) (ds.eraseIdx n)
  | _, _, _, .nil => .nil
  | _, _, 0, .cons _ t => t
  | _, _, n + 1, .cons r t => .cons r (RpAll.eraseIdx n t)
theorem RpAll.rev {vs : List V} {ds : List PyData} (h : RpAll K H M vs ds) : RpAll K H M vs.reverse ds.reverse := by
  induction vs generalizing ds with
  | nil => cases h; exact .nil
  | cons v vs ih =>
    cases h with
    | cons r t =>
      rw [List.reverse_cons, List.reverse_cons]
      exact RpAll.append (ih t) (.cons r .nil)
end

/-! ### steps: what is not among M stays -/
structure Stp (M : Ms) (H : Hp) (M' : Ms) (H' : Hp) : Prop where
  keep : ∀ b o, H b = some o → ¬ M b → H' b = some o
  new : ∀ b, M' b → M b ∨ H b = none
theorem Stp.refl (M : Ms) (H : Hp) : Stp M H M H := ⟨fun _ _ e _ => e, fun _ m => .inl m⟩
theorem Stp.trans {M M1 M2 : Ms} {H H1 H2 : Hp} (a : Stp M H M1 H1) (b : Stp M1 H1 M2 H2) : Stp M H M2 H2 where
  keep := fun c o e n => b.keep c o (a.keep c o e n) fun m => by
    rcases a.new c m with q | q
    · exact n q
    · rw [e] at q; cases q
  new := fun c m => by
    rcases b.new c m with q | q
    · exact a.new c q
    · by_cases hm : M c
      · exact .inl hm
      · refine .inr ?_
        cases e : H c with
        | none => rfl
        | some o => rw [a.keep c o e hm] at q; cases q
section
variable {K : PySem.W.Frag} {H H' : Hp} {M M' : Ms}
theorem Rd.stp {a : Addr} {u : HO} (s : Stp M H M' H') (h : Rd H a u) (n : ¬ M a) : Rd H' a u ∧ ¬ M' a := by
  have key : ∀ o, H a = some o → H' a = some o ∧ ¬ M' a := fun o e => ⟨s.keep a o e n, fun m => by
    rcases s.new a m with q | q
    · exact n q
    · rw [e] at q; cases q⟩
  rcases h with h | ⟨o, h⟩
  · exact ⟨.inl (key _ h).1, (key _ h).2⟩
  · exact ⟨.inr ⟨o, (key _ h).1⟩, (key _ h).2⟩
theorem QL.stp {a : Addr} {xs : List V} (s : Stp M H M' H') (h : QL K H M a xs) : QL K H' M' a xs := by
  rcases h with h | h
  · exact .inl (Rd.stp s h.1 h.2)
  · exact .inr h
theorem QT.stp {a : Addr} {xs : List V} (s : Stp M H M' H') (h : QT K H M a xs) : QT K H' M' a xs := by
  rcases h with h | h
  · exact .inl (Rd.stp s h.1 h.2)
  · exact .inr h
theorem Rp.stp {v : V} {d : PyData} (s : Stp M H M' H') (h : Rp K H M v d) : Rp K H' M' v d := Rp.map (fun _ _ => QL.stp s) (fun _ _ => QT.stp s) d v h
theorem RpAll.stp {vs : List V} {ds : List PyData} (s : Stp M H M' H') (h : RpAll K H M vs ds) : RpAll K H' M' vs ds := RpAll.map (fun _ _ => QL.stp s) (fun _ _ => QT.stp s) ds vs h
/-- fewer are barred -/
theorem QL.fewer {a : Addr} {xs : List V} (s : ∀ b, M' b → M b) (h : QL K H M a xs) : QL K H M' a xs := by
  rcases h with h | h
  · exact .inl ⟨h.1, fun m => h.2 (s _ m)⟩
  · exact .inr h
theorem QT.fewer {a : Addr} {xs : List V} (s : ∀ b, M' b → M b) (h : QT K H M a xs) : QT K H M' a xs := by
  rcases h with h | h
  · exact .inl ⟨h.1, fun m => h.2 (s _ m)⟩
  · exact .inr h
theorem Rp.fewer {v : V} {d : PyData} (s : ∀ b, M' b → M b) (h : Rp K H M v d) : Rp K H M' v d := Rp.map (fun _ _ => QL.fewer s) (fun _ _ => QT.fewer s) d v h
theorem RpAll.fewer {vs : List V} {ds : List PyData} (s : ∀ b, M' b → M b) (h : RpAll K H M vs ds) : RpAll K H M' vs ds := RpAll.map (fun _ _ => QL.fewer s) (fun _ _ => QT.fewer s) ds vs h
/-- a new object that is not barred -/
theorem Stp.laid {p : Addr} {o : HO} (h : H p = none) : Stp M H M (upd H p o) :=
  ⟨fun b u e _ => by rw [upd_ne (ne_of_none e h)]; exact e, fun _ m => .inl m⟩
end

/-! ### a def's own objects -/
/-- where a def began: its heap, the objects that it may change for its caller, those that it may not hand on -/
abbrev Fps := List (List Addr)
structure Fc where
  H0 : Hp
  W : Fps
  Bar : Ms
def Mo (C : Fc) (ρ : Fps) : Ms := fun a => a ∈ ρ.flatten ∨ C.Bar a
/-- what stands at a footprint -/
def ObOk (K : PySem.W.Frag) (H : Hp) (M : Ms) (fp : List Addr) : Ob → Prop
  | .lst ds => ∃ a vs, fp = [a] ∧ H a = some (.lst vs) ∧ RpAll K H M vs ds
  | .dic kvs => ∃ a vs, fp = [a] ∧ H a = some (.dK vs) ∧ vs.map (·.1) = kvs.map (·.1) ∧ RpAll K H M (vs.map (·.2)) (kvs.map (·.2))
structure SimH (K : PySem.W.Frag) (C : Fc) (ρ : Fps) (h : Hs) (H : Hp) : Prop where
  len : ρ.length = h.length
  nd : ρ.flatten.Nodup
  trk : ∀ a ∈ ρ.flatten, ∃ o, H a = some o
  obj : ∀ (n : Nat) (fp : List Addr) (o : Ob), ρ[n]? = some fp → h[n]? = some o → ObOk K H (Mo C ρ) fp o
  fr : ∀ b o, C.H0 b = some o → b ∉ C.W.flatten → H b = some o
  own : ∀ a ∈ ρ.flatten, a ∈ C.W.flatten ∨ C.H0 a = none
  bar : ∀ b, C.Bar b → b ∉ ρ.flatten ∧ ∃ o, H b = some o
  wtr : ∀ a ∈ C.W.flatten, ∃ o, H a = some o
  pre : ∀ (n : Nat) (fp : List Addr), C.W[n]? = some fp → ∃ fp' : List Addr, ρ[n]? = some fp' ∧ fp'.head? = fp.head?
def SlV (K : PySem.W.Frag) (C : Fc) (ρ : Fps) (H : Hp) (v : V) : Sl → Prop
  | .val d => Rp K H (Mo C ρ) v d
  | .loc n => ∃ (fp : List Addr) (a : Addr), ρ[n]? = some fp ∧ fp.head? = some a ∧ v = .ref a
def SlVs (K : PySem.W.Frag) (C : Fc) (ρ : Fps) (H : Hp) : List V → List Sl → Prop := Paired (SlV K C ρ H)
structure EnvOk (K : PySem.W.Frag) (C : Fc) (ρ : Fps) (H : Hp) (env : En) (σ : St) : Prop where
  len : env.length = σ.length
  at_ : ∀ (i : Nat) (s : Sl), env[i]? = some (some s) → ∃ v, σ[i]? = some (some v) ∧ SlV K C ρ H v s
/-- a step within a def: roots stay -/
structure Ex (C : Fc) (ρ : Fps) (H : Hp) (ρ' : Fps) (H' : Hp) : Prop where
  stp : Stp (Mo C ρ) H (Mo C ρ') H'
  root : ∀ (n : Nat) (fp : List Addr), ρ[n]? = some fp → ∃ fp' : List Addr, ρ'[n]? = some fp' ∧ fp'.head? = fp.head?
section
variable {K : PySem.W.Frag} {C : Fc} {ρ ρ1 ρ2 : Fps} {H H1 H2 : Hp} {h h1 : Hs} {env : En} {σ : St} {v : V} {s : Sl}
theorem Ex.refl (C : Fc) (ρ : Fps) (H : Hp) : Ex C ρ H ρ H := ⟨Stp.refl _ _, fun _ fp e => ⟨fp, e, rfl⟩⟩
theorem Ex.trans (a : Ex C ρ H ρ1 H1) (b : Ex C ρ1 H1 ρ2 H2) : Ex C ρ H ρ2 H2 := ⟨a.stp.trans b.stp, fun n fp e => by
  obtain ⟨fp1, e1, q1⟩ := a.root n fp e
  obtain ⟨fp2, e2, q2⟩ := b.root n fp1 e1
  exact ⟨fp2, e2, q2.trans q1⟩⟩
theorem SlV.ex (x : Ex C ρ H ρ1 H1) (r : SlV K C ρ H v s) : SlV K C ρ1 H1 v s := by
  cases s with
  | val d => exact Rp.stp x.stp r
  | loc n =>
    obtain ⟨fp, a, e, q, rfl⟩ := r
    obtain ⟨fp', e', q'⟩ := x.root n fp e
    exact ⟨fp', a, e', q'.trans q, rfl⟩
theorem SlVs.ex (x : Ex C ρ H ρ1 H1) {vs : List V} {ss : List Sl} (r : SlVs K C ρ H vs ss) : SlVs K C ρ1 H1 vs ss := Paired.mapP r fun _ _ z => SlV.ex x z
theorem EnvOk.ex (x : Ex C ρ H ρ1 H1) (e : EnvOk K C ρ H env σ) : EnvOk K C ρ1 H1 env σ :=
  ⟨e.len, fun i s q => let ⟨v, a, b⟩ := e.at_ i s q; ⟨v, a, SlV.ex x b⟩⟩
theorem EnvOk.set (e : EnvOk K C ρ H env σ) (r : SlV K C ρ H v s) (i : Nat) : EnvOk K C ρ H (env.set i (some s)) (σ.set i (some v)) := by
  refine ⟨by rw [List.length_set, List.length_set]; exact e.len, fun j t q => ?_⟩
  by_cases hj : i = j
  · subst hj
    rw [List.getElem?_set] at q
    rw [if_pos rfl] at q
    split at q
    · rename_i hi
      have q' : s = t := by simpa using q
      subst q'
      refine ⟨v, ?_, r⟩
      rw [List.getElem?_set, if_pos rfl, if_pos (by rw [← e.len]; exact hi)]
    · cases q
  · rw [List.getElem?_set_ne hj] at q
    obtain ⟨u, a, b⟩ := e.at_ j t q
    exact ⟨u, by rw [List.getElem?_set_ne hj]; exact a, b⟩
theorem EnvOk.forget (e : EnvOk K C ρ H env σ) {env' : En} (hl : env'.length = env.length) (w : ∀ (i : Nat) s, env'[i]? = some (some s) → env[i]? = some (some s)) : EnvOk K C ρ H env' σ :=
  ⟨hl.trans e.len, fun i s q => e.at_ i s (w i s q)⟩
theorem SimH.trkM (S : SimH K C ρ h H) {a : Addr} (m : Mo C ρ a) : ∃ o, H a = some o := by
  rcases m with m | m
  · exact S.trk a m
  · exact (S.bar a m).2
theorem SimH.fresh (S : SimH K C ρ h H) {p : Addr} (e : H p = none) : ¬ Mo C ρ p := fun m => by
  obtain ⟨o, q⟩ := S.trkM m
  rw [e] at q; cases q
theorem ObOk.stp {M M' : Ms} {fp : List Addr} {o : Ob} (s : Stp M H M' H1) (k : ∀ a ∈ fp, H1 a = H a) (x : ObOk K H M fp o) : ObOk K H1 M' fp o := by
  cases o with
  | lst ds =>
    obtain ⟨a, vs, rfl, e, r⟩ := x
    exact ⟨a, vs, rfl, (k a (by simp)).trans e, r.stp s⟩
  | dic kvs =>
    obtain ⟨a, vs, rfl, e, q, r⟩ := x
    exact ⟨a, vs, rfl, (k a (by simp)).trans e, q, r.stp s⟩
/-- a new object that nobody may change: data -/
theorem SimH.laid (S : SimH K C ρ h H) {p : Addr} {o : HO} (e : H p = none) : SimH K C ρ h (upd H p o) where
  len := S.len
  nd := S.nd
  trk := fun a m => by
    obtain ⟨u, q⟩ := S.trk a m
    exact ⟨u, by rw [upd_ne (ne_of_none q e)]; exact q⟩
  obj := fun n fp ob e1 e2 => ObOk.stp (Stp.laid e) (fun a m => by
    obtain ⟨u, q⟩ := S.trk a (List.mem_flatten.mpr ⟨fp, List.mem_of_getElem? e1, m⟩)
    exact upd_ne (ne_of_none q e)) (S.obj n fp ob e1 e2)
  fr := fun b u q n => by
    have q' := S.fr b u q n
    rw [upd_ne (ne_of_none q' e)]; exact q'
  own := S.own
  bar := fun b m => by
    obtain ⟨n, u, q⟩ := S.bar b m
    exact ⟨n, u, by rw [upd_ne (ne_of_none q e)]; exact q⟩
  wtr := fun a m => by
    obtain ⟨u, q⟩ := S.wtr a m
    exact ⟨u, by rw [upd_ne (ne_of_none q e)]; exact q⟩
  pre := S.pre
theorem Ex.laid (S : SimH K C ρ h H) {p : Addr} {o : HO} (e : H p = none) : Ex C ρ H ρ (upd H p o) := ⟨Stp.laid e, fun _ fp q => ⟨fp, q, rfl⟩⟩
/-- a tuple laid -/
theorem Rp.newTup (S : SimH K C ρ h H) {p : Addr} {vs : List V} {ds : List PyData} (e : H p = none) (r : RpAll K H (Mo C ρ) vs ds) : Rp K (upd H p (.tup vs)) (Mo C ρ) (.ref p) (.tuple ds) :=
  .tup (.inl ⟨.inl upd_same, S.fresh e⟩) (r.stp (Stp.laid e))
theorem Rp.newLst (S : SimH K C ρ h H) {p : Addr} {vs : List V} {ds : List PyData} (e : H p = none) (r : RpAll K H (Mo C ρ) vs ds) : Rp K (upd H p (.lst vs)) (Mo C ρ) (.ref p) (.list ds) :=
  .lst (.inl ⟨.inl upd_same, S.fresh e⟩) (r.stp (Stp.laid e))
end
theorem flatten_snoc (ρ : Fps) (fp : List Addr) : (ρ ++ [fp]).flatten = ρ.flatten ++ fp := by simp
section
variable {K : PySem.W.Frag} {C : Fc} {ρ : Fps} {H : Hp} {h : Hs}
theorem Mo.snoc {a b : Addr} (m : Mo C (ρ ++ [[a]]) b) : Mo C ρ b ∨ b = a := by
  rcases m with m | m
  · rw [flatten_snoc] at m
    rcases List.mem_append.mp m with m | m
    · exact .inl (.inl m)
    · exact .inr (by simpa using m)
  · exact .inl (.inr m)
theorem Stp.push {p : Addr} {o : HO} (e : H p = none) : Stp (Mo C ρ) H (Mo C (ρ ++ [[p]])) (upd H p o) where
  keep := fun b u q _ => by rw [upd_ne (ne_of_none q e)]; exact q
  new := fun b m => by
    rcases Mo.snoc m with m | m
    · exact .inl m
    · exact .inr (m ▸ e)
theorem get_snoc {α : Type} {l : List α} {x y : α} {n : Nat} (e : (l ++ [x])[n]? = some y) : l[n]? = some y ∨ (n = l.length ∧ y = x) := by
  by_cases hn : n < l.length
  · rw [List.getElem?_append_left hn] at e
    exact .inl e
  · rw [List.getElem?_append_right (by omega)] at e
    have : n - l.length = 0 := by
      cases q : n - l.length with
      | zero => rfl
      | succ m => rw [q] at e; simp at e
    rw [this] at e
    refine .inr ⟨by omega, ?_⟩
    have e' : x = y := by simpa using e
    exact e'.symm
/-- a new object of the def's own -/
theorem SimH.push (S : SimH K C ρ h H) {p : Addr} {o : HO} {ob : Ob} (e : H p = none) (x : ObOk K (upd H p o) (Mo C (ρ ++ [[p]])) [p] ob) : SimH K C (ρ ++ [[p]]) (h ++ [ob]) (upd H p o) where
  len := by rw [List.length_append, List.length_append, S.len]; rfl
  nd := by
    rw [flatten_snoc, List.nodup_append]
    refine ⟨S.nd, by simp, fun a m b m' z => ?_⟩
    have m'' : b = p := by simpa using m'
    subst m''
    subst z
    obtain ⟨u, q⟩ := S.trk a m
    rw [e] at q; cases q
  trk := fun a m => by
    rw [flatten_snoc] at m
    rcases List.mem_append.mp m with m | m
    · obtain ⟨u, q⟩ := S.trk a m
      exact ⟨u, by rw [upd_ne (ne_of_none q e)]; exact q⟩
    · have : a = p := by simpa using m
      subst this
      exact ⟨o, upd_same⟩
  obj := fun n fp q e1 e2 => by
    rcases get_snoc e1 with e1 | ⟨hn, e1⟩
    · rcases get_snoc e2 with e2 | ⟨hn2, e2⟩
      · refine ObOk.stp (Stp.push e) (fun a m => ?_) (S.obj n fp q e1 e2)
        obtain ⟨u, z⟩ := S.trk a (List.mem_flatten.mpr ⟨fp, List.mem_of_getElem? e1, m⟩)
        exact upd_ne (ne_of_none z e)
      · have := (List.getElem?_eq_some_iff.mp e1).1
        have := S.len
        omega
    · subst e1
      rcases get_snoc e2 with e2 | ⟨hn2, e2⟩
      · have := (List.getElem?_eq_some_iff.mp e2).1
        have := S.len
        omega
      · subst e2
        exact x
  fr := fun b u q n => by
    have q' := S.fr b u q n
    rw [upd_ne (ne_of_none q' e)]; exact q'
  own := fun a m => by
    rw [flatten_snoc] at m
    rcases List.mem_append.mp m with m | m
    · exact S.own a m
    · have : a = p := by simpa using m
      subst this
      by_cases hw : a ∈ C.W.flatten
      · exact .inl hw
      · refine .inr ?_
        cases q : C.H0 a with
        | none => rfl
        | some u => rw [S.fr a u q hw] at e; cases e
  bar := fun b m => by
    obtain ⟨n, u, q⟩ := S.bar b m
    refine ⟨fun z => ?_, u, by rw [upd_ne (ne_of_none q e)]; exact q⟩
    rw [flatten_snoc] at z
    rcases List.mem_append.mp z with z | z
    · exact n z
    · have : b = p := by simpa using z
      subst this
      rw [e] at q; cases q
  wtr := fun a m => by
    obtain ⟨u, q⟩ := S.wtr a m
    exact ⟨u, by rw [upd_ne (ne_of_none q e)]; exact q⟩
  pre := fun n fp q => by
    obtain ⟨fp', e', z⟩ := S.pre n fp q
    exact ⟨fp', by rw [List.getElem?_append_left (List.getElem?_eq_some_iff.mp e').1]; exact e', z⟩
theorem Ex.push {p : Addr} {o : HO} (e : H p = none) : Ex C ρ H (ρ ++ [[p]]) (upd H p o) := ⟨Stp.push e, fun n fp q => ⟨fp, by
  rw [List.getElem?_append_left (List.getElem?_eq_some_iff.mp q).1]; exact q, rfl⟩⟩
theorem SlV.pushed {p : Addr} (H : Hp) : SlV K C (ρ ++ [[p]]) H (.ref p) (.loc ρ.length) := ⟨[p], p, by simp, rfl, rfl⟩
theorem flat_at {n : Nat} {fp : List Addr} {a : Addr} (e : ρ[n]? = some fp) (m : a ∈ fp) : a ∈ ρ.flatten := List.mem_flatten.mpr ⟨fp, List.mem_of_getElem? e, m⟩
theorem nodup_apart : ∀ {ρ : Fps} {n m : Nat} {f g : List Addr} {a : Addr}, ρ.flatten.Nodup → ρ[n]? = some f → ρ[m]? = some g → a ∈ f → a ∈ g → n = m
  | [], _, _, _, _, _, _, e, _, _, _ => by simp at e
  | x :: r, n, m, f, g, a, nd, e1, e2, m1, m2 => by
    rw [List.flatten_cons, List.nodup_append] at nd
    obtain ⟨_, nd2, dj⟩ := nd
    cases n with
    | zero =>
      cases m with
      | zero => rfl
      | succ m =>
        have e1' : x = f := by simpa using e1
        subst e1'
        exact absurd rfl (dj a m1 a (flat_at (ρ := r) (n := m) (by simpa using e2) m2))
    | succ n =>
      cases m with
      | zero =>
        have e2' : x = g := by simpa using e2
        subst e2'
        exact absurd rfl (dj a m2 a (flat_at (ρ := r) (n := n) (by simpa using e1) m1))
      | succ m => exact congrArg (· + 1) (nodup_apart (ρ := r) nd2 (by simpa using e1) (by simpa using e2) m1 m2)
/-- an object of the def's own is changed -/
theorem SimH.write (S : SimH K C ρ h H) {n : Nat} {a : Addr} {o : HO} {ob : Ob} (e : ρ[n]? = some [a]) (x : ObOk K (upd H a o) (Mo C ρ) [a] ob) : SimH K C ρ (h.set n ob) (upd H a o) ∧ Ex C ρ H ρ (upd H a o) := by
  have ma : a ∈ ρ.flatten := flat_at e (by simp)
  have st : Stp (Mo C ρ) H (Mo C ρ) (upd H a o) := ⟨fun b u q nm => by
    have : b ≠ a := fun z => nm (z ▸ .inl ma)
    rw [upd_ne this]; exact q, fun _ m => .inl m⟩
  refine ⟨⟨by rw [List.length_set]; exact S.len, S.nd, fun b m => ?_, fun k fp q e1 e2 => ?_, fun b u q nw => ?_, S.own, fun b m => ?_, fun b m => ?_, S.pre⟩, ⟨st, fun _ fp q => ⟨fp, q, rfl⟩⟩⟩
  · by_cases hb : b = a
    · subst hb; exact ⟨o, upd_same⟩
    · obtain ⟨u, q⟩ := S.trk b m
      exact ⟨u, by rw [upd_ne hb]; exact q⟩
  · by_cases hk : n = k
    · subst hk
      rw [e] at e1; cases e1
      rw [List.getElem?_set, if_pos rfl] at e2
      split at e2
      · cases e2; exact x
      · cases e2
    · rw [List.getElem?_set_ne hk] at e2
      refine ObOk.stp st (fun b m => upd_ne fun z => ?_) (S.obj k fp q e1 e2)
      subst z
      exact hk (nodup_apart S.nd e e1 (by simp) m)
  · have q' := S.fr b u q nw
    have : b ≠ a := fun z => by
      subst z
      rcases S.own b ma with w | w
      · exact nw w
      · rw [q] at w; cases w
    rw [upd_ne this]; exact q'
  · obtain ⟨n, u, q⟩ := S.bar b m
    have : b ≠ a := fun z => n (z ▸ ma)
    exact ⟨n, u, by rw [upd_ne this]; exact q⟩
  · by_cases hb : b = a
    · subst hb; exact ⟨o, upd_same⟩
    · obtain ⟨u, q⟩ := S.wtr b m
      exact ⟨u, by rw [upd_ne hb]; exact q⟩
theorem SimH.lst (S : SimH K C ρ h H) {n : Nat} {fp : List Addr} {a : Addr} {ds : List PyData} (e1 : ρ[n]? = some fp) (e2 : fp.head? = some a) (e3 : h[n]? = some (.lst ds)) : ρ[n]? = some [a] ∧ ∃ vs, H a = some (.lst vs) ∧ RpAll K H (Mo C ρ) vs ds := by
  obtain ⟨b, vs, rfl, q, r⟩ := S.obj n fp _ e1 e3
  have : b = a := by simpa using e2
  subst this
  exact ⟨e1, vs, q, r⟩
/-! ### frames within frames -/
/-- one more that is barred -/
def Fc.plus (C : Fc) (D : Addr) : Fc := { C with Bar := fun a => C.Bar a ∨ a = D }
/-- a part of the def's run as a frame of its own: it may change the def's own objects -/
def Fc.sub (C : Fc) (ρ : Fps) (H : Hp) : Fc := { H0 := H, W := ρ, Bar := C.Bar }
theorem SimH.sub (S : SimH K C ρ h H) : SimH K (C.sub ρ H) ρ h H where
  len := S.len
  nd := S.nd
  trk := S.trk
  obj := S.obj
  fr := fun _ _ e _ => e
  own := fun _ m => .inl m
  bar := S.bar
  wtr := S.trk
  pre := fun n fp e => ⟨fp, e, rfl⟩
theorem SimH.back (S : SimH K C ρ h H) {ρ1 : Fps} {h1 : Hs} {H1 : Hp} (S1 : SimH K (C.sub ρ H) ρ1 h1 H1) (w : ∀ a ∈ C.W.flatten, ∃ o, H1 a = some o) : SimH K C ρ1 h1 H1 where
  len := S1.len
  nd := S1.nd
  trk := S1.trk
  obj := S1.obj
  fr := fun b o e n => S1.fr b o (S.fr b o e n) fun m => by
    rcases S.own b m with q | q
    · exact n q
    · rw [e] at q; cases q
  own := fun a m => by
    rcases S1.own a m with q | q
    · exact S.own a q
    · by_cases hw : a ∈ C.W.flatten
      · exact .inl hw
      · refine .inr ?_
        cases e : C.H0 a with
        | none => rfl
        | some o =>
          have q' : H a = none := q
          rw [S.fr a o e hw] at q'; cases q'
  bar := S1.bar
  wtr := w
  pre := fun n fp e => by
    obtain ⟨fp1, e1, q1⟩ := S.pre n fp e
    obtain ⟨fp2, e2, q2⟩ := S1.pre n fp1 e1
    exact ⟨fp2, e2, q2.trans q1⟩
theorem SimH.wsub (S : SimH K C ρ h H) {ρ1 : Fps} {h1 : Hs} {H1 : Hp} (S1 : SimH K (C.sub ρ H) ρ1 h1 H1) : ∀ a ∈ C.W.flatten, ∃ o, H1 a = some o := fun a m => by
  by_cases hm : a ∈ ρ.flatten
  · exact S1.wtr a hm
  · obtain ⟨o, e⟩ := S.wtr a m
    exact ⟨o, S1.fr a o e hm⟩
theorem SimH.backW (S : SimH K C ρ h H) {ρ1 : Fps} {h1 : Hs} {H1 : Hp} (S1 : SimH K (C.sub ρ H) ρ1 h1 H1) : SimH K C ρ1 h1 H1 := S.back S1 (S.wsub S1)
/-- a new object, barred for a while -/
theorem Stp.plus {D : Addr} {o : HO} (e : H D = none) : Stp (Mo C ρ) H (Mo (C.plus D) ρ) (upd H D o) where
  keep := fun b u q _ => by rw [upd_ne (ne_of_none q e)]; exact q
  new := fun b m => by
    rcases m with m | m | m
    · exact .inl (.inl m)
    · exact .inl (.inr m)
    · exact .inr (m ▸ e)
theorem SimH.plus (S : SimH K C ρ h H) {D : Addr} {o : HO} (e : H D = none) : SimH K (C.plus D) ρ h (upd H D o) where
  len := S.len
  nd := S.nd
  trk := (S.laid (o := o) e).trk
  obj := fun n fp ob e1 e2 => ObOk.stp (Stp.plus e) (fun a m => by
    obtain ⟨u, q⟩ := S.trk a (flat_at e1 m)
    exact upd_ne (ne_of_none q e)) (S.obj n fp ob e1 e2)
  fr := (S.laid (o := o) e).fr
  own := S.own
  bar := fun b m => by
    rcases m with m | m
    · exact (S.laid (o := o) e).bar b m
    · subst m
      refine ⟨fun z => ?_, o, upd_same⟩
      obtain ⟨u, q⟩ := S.trk b z
      rw [e] at q; cases q
  wtr := (S.laid (o := o) e).wtr
  pre := S.pre
/-- a barred object is changed: no data has it -/
theorem Stp.poke {D : Addr} {o : HO} (b : C.Bar D) : Stp (Mo C ρ) H (Mo C ρ) (upd H D o) where
  keep := fun c u q n => by
    have : c ≠ D := fun z => n (z ▸ .inr b)
    rw [upd_ne this]; exact q
  new := fun _ m => .inl m
theorem SimH.poke (S : SimH K C ρ h H) {D : Addr} {o : HO} (b : C.Bar D) (n0 : C.H0 D = none) : SimH K C ρ h (upd H D o) where
  len := S.len
  nd := S.nd
  trk := fun a m => by
    have : a ≠ D := fun z => (S.bar D b).1 (z ▸ m)
    rw [upd_ne this]; exact S.trk a m
  obj := fun n fp ob e1 e2 => ObOk.stp (Stp.poke b) (fun a m => by
    have : a ≠ D := fun z => (S.bar D b).1 (z ▸ flat_at e1 m)
    exact upd_ne this) (S.obj n fp ob e1 e2)
  fr := fun c u q nw => by
    have : c ≠ D := fun z => by rw [z, n0] at q; cases q
    rw [upd_ne this]; exact S.fr c u q nw
  own := S.own
  bar := fun c m => by
    refine ⟨(S.bar c m).1, ?_⟩
    by_cases hc : c = D
    · subst hc; exact ⟨o, upd_same⟩
    · rw [upd_ne hc]; exact (S.bar c m).2
  wtr := fun a m => by
    by_cases hc : a = D
    · subst hc; exact ⟨o, upd_same⟩
    · rw [upd_ne hc]; exact S.wtr a m
  pre := S.pre
theorem Mo.unplus {D b : Addr} (m : Mo C ρ b) : Mo (C.plus D) ρ b := by
  rcases m with m | m
  · exact .inl m
  · exact .inr (.inl m)
theorem ObOk.fewer {M M' : Ms} {fp : List Addr} {o : Ob} (s : ∀ b, M' b → M b) (x : ObOk K H M fp o) : ObOk K H M' fp o := by
  cases o with
  | lst ds =>
    obtain ⟨a, vs, rfl, e, r⟩ := x
    exact ⟨a, vs, rfl, e, r.fewer s⟩
  | dic kvs =>
    obtain ⟨a, vs, rfl, e, q, r⟩ := x
    exact ⟨a, vs, rfl, e, q, r.fewer s⟩
theorem SimH.unplus {D : Addr} (S : SimH K (C.plus D) ρ h H) : SimH K C ρ h H where
  len := S.len
  nd := S.nd
  trk := S.trk
  obj := fun n fp ob e1 e2 => ObOk.fewer (fun _ => Mo.unplus) (S.obj n fp ob e1 e2)
  fr := S.fr
  own := S.own
  bar := fun b m => S.bar b (.inl m)
  wtr := S.wtr
  pre := S.pre
/-- the barred object becomes one of the def's own -/
theorem Mo.adopt {D b : Addr} : Mo C (ρ ++ [[D]]) b ↔ Mo (C.plus D) ρ b := by
  unfold Mo
  rw [flatten_snoc]
  constructor
  · rintro (m | m)
    · rcases List.mem_append.mp m with m | m
      · exact .inl m
      · exact .inr (.inr (by simpa using m))
    · exact .inr (.inl m)
  · rintro (m | m | m)
    · exact .inl (List.mem_append_left _ m)
    · exact .inr m
    · exact .inl (List.mem_append_right _ (by simp [m]))
theorem SimH.adopt {D : Addr} (S : SimH K (C.plus D) ρ h H) {ob : Ob} (n0 : C.H0 D = none) (nb : ¬ C.Bar D) (x : ObOk K H (Mo (C.plus D) ρ) [D] ob) : SimH K C (ρ ++ [[D]]) (h ++ [ob]) H where
  len := by rw [List.length_append, List.length_append, S.len]; rfl
  nd := by
    rw [flatten_snoc, List.nodup_append]
    refine ⟨S.nd, by simp, fun a m b m' z => ?_⟩
    have m'' : b = D := by simpa using m'
    subst m''
    subst z
    exact (S.bar a (.inr rfl)).1 m
  trk := fun a m => by
    rw [flatten_snoc] at m
    rcases List.mem_append.mp m with m | m
    · exact S.trk a m
    · have : a = D := by simpa using m
      subst this
      exact (S.bar a (.inr rfl)).2
  obj := fun n fp q e1 e2 => by
    rcases get_snoc e1 with e1 | ⟨hn, e1⟩
    · rcases get_snoc e2 with e2 | ⟨hn2, e2⟩
      · exact ObOk.fewer (fun _ => Mo.adopt.mp) (S.obj n fp q e1 e2)
      · have := (List.getElem?_eq_some_iff.mp e1).1
        have := S.len
        omega
    · subst e1
      rcases get_snoc e2 with e2 | ⟨hn2, e2⟩
      · have := (List.getElem?_eq_some_iff.mp e2).1
        have := S.len
        omega
      · subst e2
        exact ObOk.fewer (fun _ => Mo.adopt.mp) x
  fr := S.fr
  own := fun a m => by
    rw [flatten_snoc] at m
    rcases List.mem_append.mp m with m | m
    · exact S.own a m
    · have : a = D := by simpa using m
      subst this
      exact .inr n0
  bar := fun b m => by
    refine ⟨fun z => ?_, (S.bar b (.inl m)).2⟩
    rw [flatten_snoc] at z
    rcases List.mem_append.mp z with z | z
    · exact (S.bar b (.inl m)).1 z
    · have : b = D := by simpa using z
      subst this
      exact nb m
  wtr := S.wtr
  pre := fun n fp q => by
    obtain ⟨fp', e', z⟩ := S.pre n fp q
    exact ⟨fp', by rw [List.getElem?_append_left (List.getElem?_eq_some_iff.mp e').1]; exact e', z⟩
theorem SimH.wlen (S : SimH K C ρ h H) : C.W.length ≤ h.length := by
  cases q : C.W.length with
  | zero => exact Nat.zero_le _
  | succ m =>
    have hm : m < C.W.length := by omega
    obtain ⟨fp', e', _⟩ := S.pre m _ (List.getElem?_eq_getElem hm)
    have := (List.getElem?_eq_some_iff.mp e').1
    have := S.len
    omega
/-- only the first n objects are kept -/
theorem flatten_take_mem {n : Nat} {a : Addr} (m : a ∈ (ρ.take n).flatten) : a ∈ ρ.flatten := by
  obtain ⟨fp, h1, h2⟩ := List.mem_flatten.mp m
  exact List.mem_flatten.mpr ⟨fp, List.mem_of_mem_take h1, h2⟩
theorem Mo.take {n : Nat} {b : Addr} (m : Mo C (ρ.take n) b) : Mo C ρ b := by
  rcases m with m | m
  · exact .inl (flatten_take_mem m)
  · exact .inr m
theorem get_take {α : Type} {l : List α} {n i : Nat} {x : α} (e : (l.take n)[i]? = some x) : l[i]? = some x := by
  rw [List.getElem?_take] at e
  split at e
  · exact e
  · cases e
theorem SimH.take (S : SimH K C ρ h H) (n : Nat) (hn : C.W.length ≤ n) : SimH K C (ρ.take n) (h.take n) H where
  len := by rw [List.length_take, List.length_take, S.len]
  nd := by
    have e : ρ.flatten = (ρ.take n).flatten ++ (ρ.drop n).flatten := by rw [← List.flatten_append, List.take_append_drop]
    have q := S.nd
    rw [e] at q
    exact (List.nodup_append.mp q).1
  trk := fun a m => S.trk a (flatten_take_mem m)
  obj := fun k fp o e1 e2 => ObOk.fewer (fun _ => Mo.take) (S.obj k fp o (get_take e1) (get_take e2))
  fr := S.fr
  own := fun a m => S.own a (flatten_take_mem m)
  bar := fun b m => ⟨fun z => (S.bar b m).1 (flatten_take_mem z), (S.bar b m).2⟩
  wtr := S.wtr
  pre := fun k fp q => by
    obtain ⟨fp', e', z⟩ := S.pre k fp q
    have := (List.getElem?_eq_some_iff.mp q).1
    exact ⟨fp', by rw [List.getElem?_take, if_pos (by omega)]; exact e', z⟩
theorem Stp.take (n : Nat) : Stp (Mo C ρ) H (Mo C (ρ.take n)) H := ⟨fun _ _ e _ => e, fun _ m => .inl (Mo.take m)⟩
end
end FL

namespace FL
open PySem PySem.Spec PyProof.Rows L2

/-- how an exception lies -/
def XnOk (K : PySem.W.Frag) (mg : Str → Option Value) (H : Hp) (M : Ms) (x : Exn) (cls : Value) (d : Option Addr) : Prop :=
  mg x.cls = some cls ∧ ((x.fs = [] ∧ d = none) ∨ ∃ da vs, d = some da ∧ H da = some (.xd vs) ∧ vs.map (·.1) = x.fs.map (·.1) ∧ RpAll K H M (vs.map (·.2)) (x.fs.map (·.2)))
/-- what is to be shown of an outcome -/
def Po {α β : Type} (K : PySem.W.Frag) (mg : Str → Option Value) (C : Fc) (Wx : WX) (σ : St) (ρ : Fps) (H : Hp) (rel : Fps → Hp → β → α → Prop) (r : Rz α) (Q : β → Hp → Prop) : Prop := match r with
  | .ok a h' => ∀ (ρ' : Fps) (b : β) (H' : Hp), Ex C ρ H ρ' H' → SimH K C ρ' h' H' → rel ρ' H' b a → Q b H'
  | .err x h' => ∀ (ρ' : Fps) (H' : Hp) (cls : Value) (d : Option Addr), Ex C ρ H ρ' H' → SimH K C ρ' h' H' → XnOk K mg H' (Mo C ρ') x cls d → Wx cls d σ H'
  | .bad => False
def rd {α β : Type} (K : PySem.W.Frag) (mg : Str → Option Value) (C : Fc) (Wx : WX) (rel : Fps → Hp → β → α → Prop) (f : En → Hs → Rz α) : St → Hp → (β → Hp → Prop) → Prop := fun σ H Q =>
  ∃ (ρ : Fps) (env : En) (h : Hs), SimH K C ρ h H ∧ EnvOk K C ρ H env σ ∧ Po K mg C Wx σ ρ H rel (f env h) Q
abbrev relE (K : PySem.W.Frag) (C : Fc) : Fps → Hp → V → Sl → Prop := fun ρ H v s => SlV K C ρ H v s
abbrev relA (K : PySem.W.Frag) (C : Fc) : Fps → Hp → List V → List Sl → Prop := fun ρ H v s => SlVs K C ρ H v s
abbrev relT : Fps → Hp → Bool → Bool → Prop := fun _ _ b c => b = c
abbrev relO : Fps → Hp → Option Int → Option Int → Prop := fun _ _ b c => b = c
abbrev FE (X : Cx) (C : Fc) (Wx : WX) (e : Expr) (f : Ev) : Prop := PE X e (rd X.K X.mg C Wx (relE X.K C) f)
abbrev FT (X : Cx) (C : Fc) (Wx : WX) (e : Expr) (f : Tv) : Prop := PT X e (rd X.K X.mg C Wx relT f)
abbrev FW (X : Cx) (C : Fc) (Wx : WX) (e : Expr) (f : Tv) : Prop := PW X e (rd X.K X.mg C Wx relT f)
abbrev FA (X : Cx) (C : Fc) (Wx : WX) (es : List Expr) (f : Av) : Prop := PA X es (rd X.K X.mg C Wx (relA X.K C) f)
abbrev FO (X : Cx) (C : Fc) (Wx : WX) (e : Option Expr) (f : En → Hs → Rz (Option Int)) : Prop := PO X e (rd X.K X.mg C Wx relO f)

theorem PE.imp {X : Cx} {e : Expr} {t t' : TE} (h : PE X e t) (i : ∀ σ H Q, t' σ H Q → t σ H Q) : PE X e t' := ⟨fun pins s σ H Q I q => h.run pins s σ H Q I (i σ H Q q)⟩
theorem PT.imp {X : Cx} {e : Expr} {t t' : TT} (h : PT X e t) (i : ∀ σ H Q, t' σ H Q → t σ H Q) : PT X e t' := ⟨fun pins s σ H Q I q => h.run pins s σ H Q I (i σ H Q q)⟩
theorem PW.imp {X : Cx} {e : Expr} {t t' : TT} (h : PW X e t) (i : ∀ σ H Q, t' σ H Q → t σ H Q) : PW X e t' := ⟨fun wh pins s σ H Q I q => h.run wh pins s σ H Q I (i σ H Q q)⟩
theorem PA.imp {X : Cx} {e : List Expr} {t t' : TA} (h : PA X e t) (i : ∀ σ H Q, t' σ H Q → t σ H Q) : PA X e t' := ⟨fun pos pins s σ H Q I q => h.run pos pins s σ H Q I (i σ H Q q)⟩
theorem PO.imp {X : Cx} {e : Option Expr} {t t' : TO} (h : PO X e t) (i : ∀ σ H Q, t' σ H Q → t σ H Q) : PO X e t' := ⟨fun pins s σ H Q I q => h.run pins s σ H Q I (i σ H Q q)⟩
theorem PS.imp {X : Cx} {e : Stmt} {t t' : TS} (h : PS X e t) (i : ∀ D σ H, t' D σ H → t D σ H) : PS X e t' := ⟨fun pins s σ H D I q => h.run pins s σ H D I (i D σ H q)⟩
theorem PSs.imp {X : Cx} {e : List Stmt} {t t' : TS} (h : PSs X e t) (i : ∀ D σ H, t' D σ H → t D σ H) : PSs X e t' := ⟨fun pins s σ H D I q => h.run pins s σ H D I (i D σ H q)⟩

section
variable {K : PySem.W.Frag} {mg : Str → Option Value} {C : Fc} {Wx : WX} {σ : St} {H : Hp}
/-- an outcome behind a step -/
theorem Po.ex {α β : Type} {ρ ρ1 : Fps} {H1 : Hp} {rel : Fps → Hp → β → α → Prop} {r : Rz α} {Q : β → Hp → Prop} (x : Ex C ρ H ρ1 H1) (p : Po K mg C Wx σ ρ H rel r Q) : Po K mg C Wx σ ρ1 H1 rel r Q := by
  cases r with
  | ok a h' => exact fun ρ' b H' x' S r => p ρ' b H' (x.trans x') S r
  | err y h' => exact fun ρ' H' cls d s S q => p ρ' H' cls d (x.trans s) S q
  | bad => exact p
/-- THE BIND: a first part, then the rest -/
theorem rd.bind {α β γ δ : Type} {r1 : Fps → Hp → β → α → Prop} {r2 : Fps → Hp → δ → γ → Prop} {f : En → Hs → Rz α} {g : α → En → Hs → Rz γ} {Q : δ → Hp → Prop}
    (p : rd K mg C Wx r2 (fun env h => (f env h).bind fun a h => g a env h) σ H Q) {R : β → Hp → Prop}
    (k : ∀ ρ1 env h1 a b H1, SimH K C ρ1 h1 H1 → EnvOk K C ρ1 H1 env σ → r1 ρ1 H1 b a → Po K mg C Wx σ ρ1 H1 r2 (g a env h1) Q → R b H1) : rd K mg C Wx r1 f σ H R := by
  obtain ⟨ρ, env, h, S, E, P⟩ := p
  refine ⟨ρ, env, h, S, E, ?_⟩
  cases e : f env h with
  | ok a h1 =>
    intro ρ1 b H1 x S1 q
    have P' : Po K mg C Wx σ ρ H r2 ((f env h).bind fun a h => g a env h) Q := P
    rw [e] at P'
    exact k ρ1 env h1 a b H1 S1 (E.ex x) q (P'.ex x)
  | err y h1 =>
    have P' : Po K mg C Wx σ ρ H r2 ((f env h).bind fun a h => g a env h) Q := P
    rw [e] at P'
    exact P'
  | bad =>
    have P' : Po K mg C Wx σ ρ H r2 ((f env h).bind fun a h => g a env h) Q := P
    rw [e] at P'
    exact P'
theorem Po.bind {α β γ δ : Type} {r1 : Fps → Hp → β → α → Prop} {r2 : Fps → Hp → δ → γ → Prop} {ρ : Fps} {r : Rz α} {g : α → Hs → Rz γ} {Q : δ → Hp → Prop} {R : β → Hp → Prop} (P : Po K mg C Wx σ ρ H r2 (r.bind g) Q)
    (k : ∀ ρ1 h1 a b H1, r = .ok a h1 → Ex C ρ H ρ1 H1 → SimH K C ρ1 h1 H1 → r1 ρ1 H1 b a → Po K mg C Wx σ ρ1 H1 r2 (g a h1) Q → R b H1) : Po K mg C Wx σ ρ H r1 r R := by
  cases r with
  | ok a h1 => exact fun ρ1 b H1 x S1 q => k ρ1 h1 a b H1 rfl x S1 q (Po.ex (r := g a h1) x P)
  | err y h1 => exact P
  | bad => exact P
theorem rd.of {α β : Type} {rel : Fps → Hp → β → α → Prop} {f : En → Hs → Rz α} {Q : β → Hp → Prop} {ρ : Fps} {env : En} {h : Hs} (S : SimH K C ρ h H) (E : EnvOk K C ρ H env σ) (p : Po K mg C Wx σ ρ H rel (f env h) Q) : rd K mg C Wx rel f σ H Q := ⟨ρ, env, h, S, E, p⟩
end

/-! ### names, constants -/
def eVar (i : Nat) : Ev := fun env h => match env[i]? with
  | some (some s) => .ok s h
  | _ => .bad
def eK (d : PyData) : Ev := fun _ h => .ok (.val d) h
section
variable {X : Cx} {C : Fc} {Wx : WX}
theorem fe_var (i : Nat) {x : Str} {pos : Pos} (hN : X.N[i]? = some x := by rfl) (hv : Vis X.env.scope x := by first | exact Or.inl rfl | exact Or.inr (Or.inl rfl) | exact Or.inr (Or.inr rfl)) (hd : (x == ("__debug__" : Str)) = false := by decide)
    (hcd : (x == ("__classdict__" : Str)) = false := by decide) : FE X C Wx (.Name x pos) (eVar i) := by
  refine PE.imp (pe_var hN hv hd hcd) fun σ H Q ⟨ρ, env, h, S, E, P⟩ => ?_
  have P' : Po X.K X.mg C Wx σ ρ H (relE X.K C) (eVar i env h) Q := P
  unfold eVar at P'
  split at P'
  · rename_i s e
    obtain ⟨v, e1, r⟩ := E.at_ i s e
    exact ⟨v, e1, P' ρ v H (Ex.refl _ _ _) S r⟩
  · exact P'.elim
theorem fe_const {e : Expr} {v : V} {d : PyData} (h : PE X e (tC v)) (r : ∀ H M, Rp X.K H M v d) : FE X C Wx e (eK d) :=
  PE.imp h fun σ H Q ⟨ρ, env, hh, S, E, P⟩ => P ρ v H (Ex.refl _ _ _) S (r _ _)
theorem fe_int {i j pos} : FE X C Wx (.Constant (.int i) j pos) (eK (.int i)) := fe_const pe_int fun _ _ => .int i
theorem fe_bl {b j pos} : FE X C Wx (.Constant (.bool b) j pos) (eK (.bool b)) := fe_const pe_bl fun _ _ => .bl b
theorem fe_non {j pos} : FE X C Wx (.Constant .none j pos) (eK .none) := fe_const pe_non fun _ _ => .non
theorem fe_str {x j pos} : FE X C Wx (.Constant (.str x) j pos) (eK (.str x)) := fe_const pe_str fun _ _ => .str x
/-- a module's constant that is an int -/
theorem fe_globI {x : Str} {i : Int} {pos : Pos} (hg : Gl X x) (hm : ∃ t, X.mg x = some (.int i t)) (hd : (x == ("__debug__" : Str)) = false := by decide) : FE X C Wx (.Name x pos) (eK (.int i)) := by
  obtain ⟨t, hm⟩ := hm
  exact fe_const (v := .int i) (pe_glob hg hm ⟨t, rfl⟩ hd) fun _ _ => .int i
theorem fe_globS {x : Str} {y : Str} {pos : Pos} (hg : Gl X x) (hm : ∃ t, X.mg x = some (.str y t)) (hd : (x == ("__debug__" : Str)) = false := by decide) : FE X C Wx (.Name x pos) (eK (.str y)) := by
  obtain ⟨t, hm⟩ := hm
  exact fe_const (v := .str y) (pe_glob hg hm ⟨t, rfl⟩ hd) fun _ _ => .str y
end

/-! ### operators -/
abbrev G2 := Sl → Sl → Hs → Option PyData
abbrev GL := List Sl → Hs → Option PyData
def Rz.give (o : Option PyData) (h : Hs) : Rz Sl := match o with
  | some d => .ok (.val d) h
  | none => .bad
def cBin (g : G2) (f1 f2 : Ev) : Ev := fun env h => (f1 env h).bind fun s h => (f2 env h).bind fun t h => .give (g s t h) h
def cUn (g : Sl → Hs → Option PyData) (f : Ev) : Ev := fun env h => (f env h).bind fun s h => .give (g s h) h
def cCB (g : GL) (f : Av) : Ev := fun env h => (f env h).bind fun ss h => .give (g ss h) h
def rd2 (K : PySem.W.Frag) (C : Fc) (g : G2) : R2 := fun x y H Q => ∃ ρ h s t d, SimH K C ρ h H ∧ SlV K C ρ H x s ∧ SlV K C ρ H y t ∧ g s t h = some d ∧
  ∀ v H', Ex C ρ H ρ H' → SimH K C ρ h H' → Rp K H' (Mo C ρ) v d → Q v H'
def rdC (K : PySem.W.Frag) (C : Fc) (g : GL) : List V → Hp → VK → Prop := fun xs H Q => ∃ ρ h ss d, SimH K C ρ h H ∧ SlVs K C ρ H xs ss ∧ g ss h = some d ∧
  ∀ v H', Ex C ρ H ρ H' → SimH K C ρ h H' → Rp K H' (Mo C ρ) v d → Q v H'
def rd1 (K : PySem.W.Frag) (C : Fc) (g : Sl → Hs → Option PyData) : V → Hp → VK → Prop := fun x H Q => ∃ ρ h s d, SimH K C ρ h H ∧ SlV K C ρ H x s ∧ g s h = some d ∧
  ∀ v H', Ex C ρ H ρ H' → SimH K C ρ h H' → Rp K H' (Mo C ρ) v d → Q v H'
section
variable {K : PySem.W.Frag} {mg : Str → Option Value} {C : Fc} {Wx : WX} {σ : St} {H : Hp}
theorem Po.given {ρ : Fps} {h : Hs} {o : Option PyData} {Q : VK} (p : Po K mg C Wx σ ρ H (relE K C) (.give o h) Q) : ∃ d, o = some d ∧ ∀ v H', Ex C ρ H ρ H' → SimH K C ρ h H' → Rp K H' (Mo C ρ) v d → Q v H' := by
  cases o with
  | none => exact p.elim
  | some d => exact ⟨d, rfl, fun v H' x S r => p ρ v H' x S r⟩
theorem rd.bin {g : G2} {f1 f2 : Ev} {Q : VK} (p : rd K mg C Wx (relE K C) (cBin g f1 f2) σ H Q) :
    rd K mg C Wx (relE K C) f1 σ H fun x H1 => rd K mg C Wx (relE K C) f2 σ H1 fun y H2 => rd2 K C g x y H2 Q := by
  refine rd.bind (f := f1) (g := fun s env h => (f2 env h).bind fun t h => .give (g s t h) h) p fun ρ1 env h1 s x H1 S1 E1 r1 P1 => ?_
  refine rd.of (env := env) (h := h1) S1 E1 ?_
  cases e : f2 env h1 with
  | ok t h2 =>
    intro ρ2 y H2 x2 S2 r2
    rw [e] at P1
    obtain ⟨d, e3, q⟩ := (Po.ex x2 P1).given
    exact ⟨ρ2, h2, s, t, d, S2, SlV.ex x2 r1, r2, e3, q⟩
  | err y h2 => rw [e] at P1; exact P1
  | bad => rw [e] at P1; exact P1
theorem rd.un {g : Sl → Hs → Option PyData} {f : Ev} {Q : VK} (p : rd K mg C Wx (relE K C) (cUn g f) σ H Q) : rd K mg C Wx (relE K C) f σ H fun x H1 => rd1 K C g x H1 Q :=
  rd.bind (f := f) (g := fun s env h => .give (g s h) h) p fun ρ1 env h1 s x H1 S1 E1 r1 P1 =>
    let ⟨d, e, q⟩ := P1.given
    ⟨ρ1, h1, s, d, S1, r1, e, q⟩
theorem rd.cb {g : GL} {f : Av} {Q : VK} (p : rd K mg C Wx (relE K C) (cCB g f) σ H Q) : rd K mg C Wx (relA K C) f σ H fun x H1 => rdC K C g x H1 Q :=
  rd.bind (f := f) (g := fun s env h => .give (g s h) h) p fun ρ1 env h1 s x H1 S1 E1 r1 P1 =>
    let ⟨d, e, q⟩ := P1.given
    ⟨ρ1, h1, s, d, S1, r1, e, q⟩
end
theorem OpR.imp {X : Cx} {f : Value → Value → Sem Value} {r r' : R2} (h : OpR X f r) (i : ∀ x y H Q, r' x y H Q → r x y H Q) : OpR X f r' := fun pins s σ H x y v u Q I rx ry q => h pins s σ H x y v u Q I rx ry (i _ _ _ _ q)
theorem UnR.imp {X : Cx} {f : Value → Sem Value} {r r' : V → Hp → VK → Prop} (h : UnR X f r) (i : ∀ x H Q, r' x H Q → r x H Q) : UnR X f r' := fun pins s σ H x v Q I rx q => h pins s σ H x v Q I rx (i _ _ _ q)
theorem CallR.imp {X : Cx} {f : Value} {r r' : List V → Hp → VK → Prop} (h : CallR X f r) (i : ∀ x H Q, r' x H Q → r x H Q) : CallR X f r' := fun pins s σ H x v Q I rx q => h pins s σ H x v Q I rx (i _ _ _ q)
theorem IxR.imp {X : Cx} {r r' : R2} (h : IxR X r) (i : ∀ x y H Q, r' x y H Q → r x y H Q) : IxR X r' := fun va sl pins s σ H x y v u Q I rx ry q hs => h va sl pins s σ H x y v u Q I rx ry (i _ _ _ _ q) hs
/-- two rules for one primitive -/
theorem OpR.two {X : Cx} {C : Fc} {f : Value → Value → Sem Value} {g g1 g2 : G2} (h1 : OpR X f (rd2 X.K C g1)) (h2 : OpR X f (rd2 X.K C g2)) (i : ∀ s t h, g s t h = none ∨ g s t h = g1 s t h ∨ g s t h = g2 s t h) : OpR X f (rd2 X.K C g) := by
  intro pins s σ H x y v u Q I rx ry q
  obtain ⟨ρ, h, a, b, d, S, r1, r2, e, k⟩ := q
  rcases i a b h with z | z | z
  · rw [z] at e; cases e
  · exact h1 pins s σ H x y v u Q I rx ry ⟨ρ, h, a, b, d, S, r1, r2, z ▸ e, k⟩
  · exact h2 pins s σ H x y v u Q I rx ry ⟨ρ, h, a, b, d, S, r1, r2, z ▸ e, k⟩
section
variable {X : Cx} {C : Fc} {Wx : WX} {a b c : Expr} {f1 f2 f3 : Ev} {pos : Pos}
theorem fe_op {op : Operator} {g : G2} (ho : OpR X (binaryOp op) (rd2 X.K C g)) (ha : FE X C Wx a f1) (hb : FE X C Wx b f2) : FE X C Wx (.BinOp a op b pos) (cBin g f1 f2) := PE.imp (pe_op ho ha hb) fun _ _ _ => rd.bin
theorem fe_cmp {op : CmpOp} {g : G2} (ho : OpR X (compareOp op) (rd2 X.K C g)) (ha : FE X C Wx a f1) (hb : FE X C Wx b f2) (hm : behindInMarks op b = false) : FE X C Wx (.Compare a [op] [b] pos) (cBin g f1 f2) := PE.imp (pe_cmpR ho ha hb hm) fun _ _ _ => rd.bin
theorem fe_un {op : UnaryOp} {g : Sl → Hs → Option PyData} (ho : UnR X (unaryOp op) (rd1 X.K C g)) (ha : FE X C Wx a f1) : FE X C Wx (.UnaryOp op a pos) (cUn g f1) := PE.imp (pe_un ho ha) fun _ _ _ => rd.un
theorem fe_ix {g : G2} (ho : IxR X (rd2 X.K C g)) (ha : FE X C Wx a f1) (hb : FE X C Wx b f2) (hs : PlainIx b) : FE X C Wx (.Subscript a b pos) (cBin g f1 f2) := PE.imp (pe_ix ho ha hb hs) fun _ _ _ => rd.bin
end

/-! ### tests -/
def Rz.truth (s : Sl) (h : Hs) : Rz Bool := match s with
  | .val (.bool b) => .ok b h
  | _ => .bad
/-- a value that is a truth, as a test -/
def tV (f : Ev) : Tv := fun env h => (f env h).bind fun s h => .truth s h
def tNo (f : Tv) : Tv := fun env h => (f env h).bind fun b h => .ok (!b) h
def tAn (f g : Tv) : Tv := fun env h => (f env h).bind fun b h => if b = true then g env h else .ok false h
def tOr_ (f g : Tv) : Tv := fun env h => (f env h).bind fun b h => if b = true then .ok true h else g env h
section
variable {K : PySem.W.Frag} {mg : Str → Option Value} {C : Fc} {Wx : WX} {σ : St} {H : Hp}
theorem Po.truth {ρ : Fps} {h : Hs} {s : Sl} {v : V} {Q : Bool → Hp → Prop} (S : SimH K C ρ h H) (r : SlV K C ρ H v s) (p : Po K mg C Wx σ ρ H relT (.truth s h) Q) : ∃ k, v = .bl k ∧ Q k H := by
  cases s with
  | loc n => exact p.elim
  | val d =>
    cases d with
    | bool b =>
      cases (show Rp K H (Mo C ρ) v (.bool b) from r)
      exact ⟨b, rfl, p ρ b H (Ex.refl _ _ _) S rfl⟩
    | _ => exact p.elim
theorem rd.tv {f : Ev} {Q : Bool → Hp → Prop} (p : rd K mg C Wx relT (tV f) σ H Q) : rd K mg C Wx (relE K C) f σ H fun x H1 => ∃ k, x = .bl k ∧ Q k H1 :=
  rd.bind (f := f) (g := fun s env h => .truth s h) p fun ρ1 env h1 s x H1 S1 E1 r1 P1 => P1.truth S1 r1
end
section
variable {X : Cx} {C : Fc} {Wx : WX} {a b c : Expr} {f1 f2 f3 : Ev} {g1 g2 : Tv} {pos : Pos} {rest : List Expr}
theorem ft_cmp {op : CmpOp} {g : G2} (ho : OpR X (compareOp op) (rd2 X.K C g)) (ha : FE X C Wx a f1) (hb : FE X C Wx b f2) (hm : behindInMarks op b = false) : FT X C Wx (.Compare a [op] [b] pos) (tV (cBin g f1 f2)) :=
  PT.imp (pt_cmpR ho ha hb hm) fun _ _ _ p => rd.bin (mg := X.mg) (Wx := Wx) (by
    obtain ⟨ρ, env, h, S, E, P⟩ := rd.tv p
    exact ⟨ρ, env, h, S, E, P⟩)
theorem ft_val (ha : FE X C Wx a f1) (he : ∀ whole, isTrue a X.env whole = (do let v ← whole; standAt a.pos; holding [v] (truthy v)) := by intro _; rfl) : FT X C Wx a (tV f1) := PT.imp (pt_val ha he) fun _ _ _ => rd.tv
theorem ft_not (ha : FT X C Wx a g1) : FT X C Wx (.UnaryOp .Not a pos) (tNo g1) := PT.imp (pt_not ha) fun σ H Q p =>
  rd.bind (f := g1) (g := fun s env h => .ok (!s) h) p fun ρ1 env h1 s x H1 S1 E1 r1 P1 => by
    have e : x = s := r1
    subst e
    exact P1 ρ1 (!x) H1 (Ex.refl _ _ _) S1 rfl
theorem fw_and1 (ha : FT X C Wx a g1) : FW X C Wx (.BoolOp .And [a] pos) g1 := pw_and1 ha
theorem fw_or1 (ha : FT X C Wx a g1) : FW X C Wx (.BoolOp .Or [a] pos) g1 := pw_or1 ha
theorem fw_and (ha : FT X C Wx a g1) (hb : FW X C Wx (.BoolOp .And (b :: rest) pos) g2) : FW X C Wx (.BoolOp .And (a :: b :: rest) pos) (tAn g1 g2) := PW.imp (pw_and ha hb) fun σ H Q p =>
  rd.bind (f := g1) (g := fun s env h => if s = true then g2 env h else .ok false h) p fun ρ1 env h1 s x H1 S1 E1 r1 P1 => by
    have e : x = s := r1
    subst e
    cases x with
    | true => exact rd.of S1 E1 P1
    | false => exact P1 ρ1 false H1 (Ex.refl _ _ _) S1 rfl
theorem fw_or (ha : FT X C Wx a g1) (hb : FW X C Wx (.BoolOp .Or (b :: rest) pos) g2) : FW X C Wx (.BoolOp .Or (a :: b :: rest) pos) (tOr_ g1 g2) := PW.imp (pw_or ha hb) fun σ H Q p =>
  rd.bind (f := g1) (g := fun s env h => if s = true then .ok true h else g2 env h) p fun ρ1 env h1 s x H1 S1 E1 r1 P1 => by
    have e : x = s := r1
    subst e
    cases x with
    | false => exact rd.of S1 E1 P1
    | true => exact P1 ρ1 true H1 (Ex.refl _ _ _) S1 rfl
theorem ft_w (h : FW X C Wx a g1) : FT X C Wx a g1 := h.pt
/-! .. as values -/
def eAnd (f g : Ev) : Ev := fun env h => (f env h).bind fun s h => match s with
  | .val (.bool true) => g env h
  | .val (.bool false) => .ok (.val (.bool false)) h
  | _ => .bad
def eOr (f g : Ev) : Ev := fun env h => (f env h).bind fun s h => match s with
  | .val (.bool true) => .ok (.val (.bool true)) h
  | .val (.bool false) => g env h
  | _ => .bad
def eNot (f : Ev) : Ev := fun env h => (f env h).bind fun s h => match s with
  | .val (.bool b) => .ok (.val (.bool (!b))) h
  | _ => .bad
theorem fe_one {op} (h : FE X C Wx a f1) : FE X C Wx (.BoolOp op [a] pos) f1 := pe_one h
theorem fe_and (ha : FE X C Wx a f1) (hb : FE X C Wx (.BoolOp .And (b :: rest) pos) f2) : FE X C Wx (.BoolOp .And (a :: b :: rest) pos) (eAnd f1 f2) := PE.imp (pe_and ha hb) fun σ H Q p => by
  refine rd.bind (f := f1) (g := fun s env h => match s with
    | .val (.bool true) => f2 env h
    | .val (.bool false) => .ok (.val (.bool false)) h
    | _ => .bad) p fun ρ1 env h1 s x H1 S1 E1 r1 P1 => ?_
  cases s with
  | loc n => exact P1.elim
  | val d =>
    cases d with
    | bool k =>
      cases (show Rp X.K H1 (Mo C ρ1) x (.bool k) from r1)
      refine ⟨k, rfl, ?_⟩
      cases k with
      | true => exact rd.of S1 E1 P1
      | false => exact P1 ρ1 (.bl false) H1 (Ex.refl _ _ _) S1 (Rp.bl false)
    | _ => exact P1.elim
theorem fe_or (ha : FE X C Wx a f1) (hb : FE X C Wx (.BoolOp .Or (b :: rest) pos) f2) : FE X C Wx (.BoolOp .Or (a :: b :: rest) pos) (eOr f1 f2) := PE.imp (pe_or ha hb) fun σ H Q p => by
  refine rd.bind (f := f1) (g := fun s env h => match s with
    | .val (.bool true) => .ok (.val (.bool true)) h
    | .val (.bool false) => f2 env h
    | _ => .bad) p fun ρ1 env h1 s x H1 S1 E1 r1 P1 => ?_
  cases s with
  | loc n => exact P1.elim
  | val d =>
    cases d with
    | bool k =>
      cases (show Rp X.K H1 (Mo C ρ1) x (.bool k) from r1)
      refine ⟨k, rfl, ?_⟩
      cases k with
      | false => exact rd.of S1 E1 P1
      | true => exact P1 ρ1 (.bl true) H1 (Ex.refl _ _ _) S1 (Rp.bl true)
    | _ => exact P1.elim
theorem fe_not (ha : FE X C Wx a f1) : FE X C Wx (.UnaryOp .Not a pos) (eNot f1) := PE.imp (pe_not ha) fun σ H Q p => by
  refine rd.bind (f := f1) (g := fun s env h => match s with
    | .val (.bool b) => (.ok (.val (.bool (!b))) h : Rz Sl)
    | _ => .bad) p fun ρ1 env h1 s x H1 S1 E1 r1 P1 => ?_
  cases s with
  | loc n => exact P1.elim
  | val d =>
    cases d with
    | bool k =>
      cases (show Rp X.K H1 (Mo C ρ1) x (.bool k) from r1)
      exact ⟨k, rfl, P1 ρ1 (.bl (!k)) H1 (Ex.refl _ _ _) S1 (Rp.bl (!k))⟩
    | _ => exact P1.elim
def eIf (c : Tv) (f g : Ev) : Ev := fun env h => (c env h).bind fun b h => if b = true then f env h else g env h
theorem fe_if (hc : FT X C Wx c g1) (ha : FE X C Wx a f1) (hb : FE X C Wx b f2) : FE X C Wx (.IfExp c a b pos) (eIf g1 f1 f2) := PE.imp (pe_ifExp hc ha hb) fun σ H Q p =>
  rd.bind (f := g1) (g := fun s env h => if s = true then f1 env h else f2 env h) p fun ρ1 env h1 s x H1 S1 E1 r1 P1 => by
    have e : x = s := r1
    subst e
    cases x with
    | true => exact rd.of S1 E1 P1
    | false => exact rd.of S1 E1 P1
/-! ### a op1 b op2 c -/
def eChain (g1 g2 : G2) (f1 f2 f3 : Ev) : Ev := fun env h => (f1 env h).bind fun s h => (f2 env h).bind fun t h => match g1 s t h with
  | some (.bool true) => (f3 env h).bind fun u h => .give (g2 t u h) h
  | some (.bool false) => .ok (.val (.bool false)) h
  | _ => .bad
theorem rd.chain {K : PySem.W.Frag} {mg : Str → Option Value} {C : Fc} {Wx : WX} {σ : St} {H : Hp} {g1 g2 : G2} {f1 f2 f3 : Ev} {Q : VK} (p : rd K mg C Wx (relE K C) (eChain g1 g2 f1 f2 f3) σ H Q) :
    tChain (rd2 K C g1) (rd2 K C g2) (rd K mg C Wx (relE K C) f1) (rd K mg C Wx (relE K C) f2) (rd K mg C Wx (relE K C) f3) σ H Q := by
  refine rd.bind (f := f1) (g := fun s env h => (f2 env h).bind fun t h => match g1 s t h with
    | some (.bool true) => (f3 env h).bind fun u h => .give (g2 t u h) h
    | some (.bool false) => .ok (.val (.bool false)) h
    | _ => .bad) p fun ρ1 env h1 s x H1 S1 E1 r1 P1 => ?_
  refine rd.of (env := env) (h := h1) S1 E1 ?_
  cases e : f2 env h1 with
  | err y h2 => rw [e] at P1; exact P1
  | bad => rw [e] at P1; exact P1
  | ok t h2 =>
    intro ρ2 y H2 x2 S2 r2
    rw [e] at P1
    have P2 := Po.ex x2 P1
    have P3 : Po K mg C Wx σ ρ2 H2 (relE K C) (match g1 s t h2 with
      | some (.bool true) => (f3 env h2).bind fun u h => .give (g2 t u h) h
      | some (.bool false) => .ok (.val (.bool false)) h2
      | _ => .bad) Q := P2
    cases e3 : g1 s t h2 with
    | none => rw [e3] at P3; exact P3.elim
    | some d =>
      rw [e3] at P3
      cases d with
      | bool k =>
        refine ⟨ρ2, h2, s, t, .bool k, S2, SlV.ex x2 r1, r2, e3, fun v H3 x3 S3 r3 => ?_⟩
        cases r3
        refine ⟨k, rfl, ?_⟩
        cases k with
        | false =>
          rw [if_neg Bool.false_ne_true]
          exact P3 ρ2 (.bl false) H3 x3 S3 (Rp.bl false)
        | true =>
          rw [if_pos rfl]
          refine rd.of (env := env) (h := h2) S3 ((E1.ex x2).ex x3) ?_
          have P4 : Po K mg C Wx σ ρ2 H2 (relE K C) ((f3 env h2).bind fun u h => .give (g2 t u h) h) Q := P3
          cases e4 : f3 env h2 with
          | err z h3 => rw [e4] at P4; exact Po.ex (r := Rz.err z h3) x3 P4
          | bad => rw [e4] at P4; exact P4
          | ok u h3 =>
            rw [e4] at P4
            intro ρ4 w H4 x4 S4 r4
            obtain ⟨d, e5, q⟩ := (Po.ex (x3.trans x4) P4).given
            exact ⟨ρ4, h3, t, u, d, S4, SlV.ex (x3.trans x4) r2, r4, e5, q⟩
      | _ => exact P3.elim
theorem fe_chain {op op' : CmpOp} {r1 r2 : G2} (ho : OpR X (compareOp op) (rd2 X.K C r1)) (ho' : OpR X (compareOp op') (rd2 X.K C r2)) (ha : FE X C Wx a f1) (hb : FE X C Wx b f2) (hc : FE X C Wx c f3)
    (hm : lastMarks [op, op'] [b, c] = false := by with_unfolding_all rfl) : FE X C Wx (.Compare a [op, op'] [b, c] pos) (eChain r1 r2 f1 f2 f3) := PE.imp (pe_chain ho ho' ha hb hc hm) fun _ _ _ => rd.chain
theorem ft_chain {op op' : CmpOp} {r1 r2 : G2} (ho : OpR X (compareOp op) (rd2 X.K C r1)) (ho' : OpR X (compareOp op') (rd2 X.K C r2)) (ha : FE X C Wx a f1) (hb : FE X C Wx b f2) (hc : FE X C Wx c f3)
    (hm : lastMarks [op, op'] [b, c] = false := by with_unfolding_all rfl) : FT X C Wx (.Compare a [op, op'] [b, c] pos) (tV (eChain r1 r2 f1 f2 f3)) := PT.imp (pt_chain ho ho' ha hb hc hm) fun _ _ _ p => rd.chain (mg := X.mg) (Wx := Wx) (rd.tv p)
end

/-! ### argument lists, displays -/
def aNil : Av := fun _ h => .ok [] h
def aCons (f : Ev) (g : Av) : Av := fun env h => (f env h).bind fun s h => (g env h).bind fun ss h => .ok (s :: ss) h
/-- all data -/
def vals? : List Sl → Option (List PyData)
  | [] => some []
  | .val d :: r => (vals? r).map (d :: ·)
  | .loc _ :: _ => none
def lineOk (n : Nat) : Bool := decide (n ≤ 16777216)
theorem lineOk_le {n : Nat} (h : lineOk n = true) : n ≤ sizeLine := by rw [sizeLine_eq]; exact of_decide_eq_true h
def eTup (f : Av) : Ev := fun env h => (f env h).bind fun ss h => .give ((vals? ss).bind fun ds => if lineOk ds.length then some (.tuple ds) else none) h
def eLst (f : Av) : Ev := fun env h => (f env h).bind fun ss h => .give ((vals? ss).bind fun ds => if lineOk ds.length then some (.list ds) else none) h
/-- a list of the def's own -/
def eNew (f : Av) : Ev := fun env h => (f env h).bind fun ss h => match vals? ss with
  | some ds => if lineOk ds.length then .ok (.loc h.length) (h ++ [.lst ds]) else .bad
  | none => .bad
section
variable {K : PySem.W.Frag} {C : Fc} {ρ : Fps} {H : Hp}
theorem vals_rel : ∀ {vs : List V} {ss : List Sl} {ds : List PyData}, SlVs K C ρ H vs ss → vals? ss = some ds → RpAll K H (Mo C ρ) vs ds
  | _, _, ds, .nil, e => by
    have e' : some ([] : List PyData) = some ds := e
    cases e'; exact .nil
  | _, _, ds, .cons (b := .val d) r t, e => by
    have e' : (vals? _).map (d :: ·) = some ds := e
    cases q : vals? _ with
    | none => rw [q] at e'; cases e'
    | some es =>
      rw [q] at e'
      cases e'
      exact .cons r (vals_rel t q)
  | _, _, _, .cons (b := .loc n) r t, e => by cases (show none = some _ from e)
end
section
variable {X : Cx} {C : Fc} {Wx : WX} {e : Expr} {es : List Expr} {f : Ev} {g : Av} {pos : Pos}
theorem fa_nil : FA X C Wx [] aNil := PA.imp pa_nil fun σ H Q ⟨ρ, env, h, S, E, P⟩ => P ρ [] H (Ex.refl _ _ _) S .nil
theorem fa_cons (ha : FE X C Wx e f) (hr : FA X C Wx es g) (hs : starEach (e :: es) X.env = (false, eval e X.env) :: starEach es X.env := by rfl) : FA X C Wx (e :: es) (aCons f g) := PA.imp (pa_cons ha hr hs) fun σ H Q p => by
  refine rd.bind (f := f) (g := fun s env h => (g env h).bind fun ss h => .ok (s :: ss) h) p fun ρ1 env h1 s x H1 S1 E1 r1 P1 => ?_
  refine rd.of (env := env) (h := h1) S1 E1 ?_
  cases q : g env h1 with
  | err y h2 => rw [q] at P1; exact P1
  | bad => rw [q] at P1; exact P1
  | ok ss h2 =>
    intro ρ2 ys H2 x2 S2 r2
    rw [q] at P1
    exact P1 ρ2 (x :: ys) H2 x2 S2 (.cons (SlV.ex x2 r1) r2)
theorem give_disp {mk : List PyData → PyData} {ss : List Sl} {h : Hs} {mg : Str → Option Value} {σ : St} {ρ : Fps} {H : Hp} {Q : VK} (p : Po X.K mg C Wx σ ρ H (relE X.K C) (.give ((vals? ss).bind fun ds => if lineOk ds.length then some (mk ds) else none) h) Q) :
    ∃ ds, vals? ss = some ds ∧ ds.length ≤ sizeLine ∧ ∀ v H', Ex C ρ H ρ H' → SimH X.K C ρ h H' → Rp X.K H' (Mo C ρ) v (mk ds) → Q v H' := by
  obtain ⟨d, e, q⟩ := p.given
  cases z : vals? ss with
  | none => rw [z] at e; cases e
  | some ds =>
    rw [z] at e
    have e' : (if lineOk ds.length then some (mk ds) else none) = some d := e
    split at e'
    · rename_i hl
      cases e'
      exact ⟨ds, rfl, lineOk_le hl, q⟩
    · cases e'
theorem fe_tup {x1} (h : FA X C Wx es g) : FE X C Wx (.Tuple es x1 pos) (eTup g) := PE.imp (pe_tup h) fun σ H Q p => by
  refine rd.bind (f := g) (g := fun ss env h => .give ((vals? ss).bind fun ds => if lineOk ds.length then some (.tuple ds) else none) h) p fun ρ1 env h1 ss xs H1 S1 E1 r1 P1 => ?_
  obtain ⟨ds, e, hl, q⟩ := give_disp P1
  have r := vals_rel r1 e
  exact ⟨by rw [r.length]; exact hl, fun p hp => q _ _ (Ex.laid S1 hp) (S1.laid hp) (Rp.newTup S1 hp r)⟩
theorem fe_lst (h : FA X C Wx es g) : FE X C Wx (.List es pos) (eLst g) := PE.imp (pe_lst h) fun σ H Q p => by
  refine rd.bind (f := g) (g := fun ss env h => .give ((vals? ss).bind fun ds => if lineOk ds.length then some (.list ds) else none) h) p fun ρ1 env h1 ss xs H1 S1 E1 r1 P1 => ?_
  obtain ⟨ds, e, hl, q⟩ := give_disp P1
  have r := vals_rel r1 e
  exact ⟨by rw [r.length]; exact hl, fun p hp => q _ _ (Ex.laid S1 hp) (S1.laid hp) (Rp.newLst S1 hp r)⟩
theorem push_lst {ρ : Fps} {h : Hs} {H : Hp} {p : Addr} {vs : List V} {ds : List PyData} {K : PySem.W.Frag} (S : SimH K C ρ h H) (hp : H p = none) (r : RpAll K H (Mo C ρ) vs ds) : SimH K C (ρ ++ [[p]]) (h ++ [.lst ds]) (upd H p (.lst vs)) :=
  S.push hp ⟨p, vs, rfl, upd_same, r.stp (Stp.push hp)⟩
theorem fe_new (h : FA X C Wx es g) : FE X C Wx (.List es pos) (eNew g) := PE.imp (pe_lst h) fun σ H Q p => by
  refine rd.bind (f := g) (g := fun ss env h => match vals? ss with
    | some ds => if lineOk ds.length then (.ok (.loc h.length) (h ++ [.lst ds]) : Rz Sl) else .bad
    | none => .bad) p fun ρ1 env h1 ss xs H1 S1 E1 r1 P1 => ?_
  cases e : vals? ss with
  | none => rw [e] at P1; exact P1.elim
  | some ds =>
    rw [e] at P1
    have r := vals_rel r1 e
    have P2 : Po X.K X.mg C Wx σ ρ1 H1 (relE X.K C) (if lineOk ds.length then .ok (.loc h1.length) (h1 ++ [.lst ds]) else .bad) Q := P1
    split at P2
    · rename_i hl
      refine ⟨by rw [r.length]; exact lineOk_le hl, fun p hp => P2 (ρ1 ++ [[p]]) (.ref p) _ (Ex.push hp) (push_lst S1 hp r) ?_⟩
      rw [← S1.len]
      exact SlV.pushed _
    · exact P2.elim
end
end FL

namespace FL
open PySem PySem.Spec PyProof.Rows L2

/-! ### primitives -/
/-- the items of a list or tuple -/
def items (s : Sl) (h : Hs) : Option (List PyData) := match s with
  | .val (.list ds) => some ds
  | .val (.tuple ds) => some ds
  | .loc n => match h[n]? with
    | some (.lst ds) => some ds
    | _ => none
  | _ => none
/-- as data -/
def dat (s : Sl) (h : Hs) : Option PyData := match s with
  | .val d => some d
  | .loc n => match h[n]? with
    | some (.lst ds) => some (.list ds)
    | _ => none
section
variable {K : PySem.W.Frag} {C : Fc} {ρ : Fps} {H : Hp} {h : Hs} {v : V} {s : Sl}
theorem items_rel {ds : List PyData} (S : SimH K C ρ h H) (r : SlV K C ρ H v s) (e : items s h = some ds) : ∃ a vs, v = .ref a ∧ (SqL K H a vs ∨ SqT K H a vs) ∧ RpAll K H (Mo C ρ) vs ds := by
  unfold items at e
  split at e
  · rename_i ds'
    cases e
    cases (show Rp K H (Mo C ρ) v (.list ds) from r) with
    | lst q a => exact ⟨_, _, rfl, .inl q.sq, a⟩
  · rename_i ds'
    cases e
    cases (show Rp K H (Mo C ρ) v (.tuple ds) from r) with
    | tup q a => exact ⟨_, _, rfl, .inr q.sq, a⟩
  · rename_i n
    obtain ⟨fp, a, e1, e2, rfl⟩ := r
    split at e
    · rename_i ds' e3
      cases e
      obtain ⟨_, vs, q, a⟩ := S.lst e1 e2 e3
      exact ⟨_, vs, rfl, .inl (SqL.of q), a⟩
    · cases e
  · cases e
theorem dat_rel {d : PyData} (S : SimH K C ρ h H) (r : SlV K C ρ H v s) (e : dat s h = some d) : Dp K H v d := by
  unfold dat at e
  split at e
  · cases e
    exact Rp.dp _ _ r
  · rename_i n
    obtain ⟨fp, a, e1, e2, rfl⟩ := r
    split at e
    · rename_i ds' e3
      cases e
      obtain ⟨_, vs, q, a⟩ := S.lst e1 e2 e3
      exact .lst (SqL.of q) (RpAll.dp _ _ a)
    · cases e
end
/-- an operation on two ints -/
def gI (f : Int → Int → Option PyData) : G2 := fun s t _ => match s, t with
  | .val (.int i), .val (.int j) => f i j
  | _, _ => none
theorem gI_some {f : Int → Int → Option PyData} {s t : Sl} {h : Hs} {d : PyData} (e : gI f s t h = some d) : ∃ i j, s = .val (.int i) ∧ t = .val (.int j) ∧ f i j = some d := by
  unfold gI at e
  split at e
  · exact ⟨_, _, rfl, rfl, e⟩
  · cases e
section
variable {X : Cx} {C : Fc}
theorem o_int {f : Value → Value → Sem Value} {g : Int → Int → Option PyData} {r : R2} (ho : OpR X f r) (i : ∀ i j d H Q, g i j = some d → (∀ v, Rp X.K H (fun _ => True) v d → Q v H) → r (.int i) (.int j) H Q)
    (sc : ∀ i j d, g i j = some d → ∀ H M M' v, Rp X.K H M v d → Rp X.K H M' v d) : OpR X f (rd2 X.K C (gI g)) := OpR.imp ho fun x y H Q ⟨ρ, h, s, t, d, S, r1, r2, e, k⟩ => by
  obtain ⟨a, b, rfl, rfl, e⟩ := gI_some e
  cases (show Rp X.K H (Mo C ρ) x (.int a) from r1)
  cases (show Rp X.K H (Mo C ρ) y (.int b) from r2)
  exact i a b d H Q e fun v r => k v H (Ex.refl _ _ _) S (sc a b d e _ _ _ _ r)
def fAdd (i j : Int) : Option PyData := some (.int (i + j))
def fSub (i j : Int) : Option PyData := some (.int (i - j))
def fMul (i j : Int) : Option PyData := if (-(2 ^ 64) < i ∧ i < 2 ^ 64) ∨ (-(2 ^ 64) < j ∧ j < 2 ^ 64) then some (.int (i * j)) else none
def fMod (i j : Int) : Option PyData := if 0 < j then some (.int (i % j)) else none
def fDiv (i j : Int) : Option PyData := if 0 < j ∧ j < 1073741824 then some (.int (i / j)) else none
def fPow (i j : Int) : Option PyData := if 0 ≤ j ∧ j ≤ 1000000 ∧ i.natAbs < 2 ^ 64 then some (.int (i ^ j.toNat)) else none
def fLt (i j : Int) : Option PyData := some (.bool (decide (i < j)))
def fLe (i j : Int) : Option PyData := some (.bool (decide (i ≤ j)))
def fGt (i j : Int) : Option PyData := some (.bool (decide (j < i)))
def fGe (i j : Int) : Option PyData := some (.bool (decide (j ≤ i)))
theorem sc_int {K : PySem.W.Frag} {H : Hp} {M M' : Ms} {v : V} {n : Int} (r : Rp K H M v (.int n)) : Rp K H M' v (.int n) := by cases r; exact .int n
theorem sc_bool {K : PySem.W.Frag} {H : Hp} {M M' : Ms} {v : V} {n : Bool} (r : Rp K H M v (.bool n)) : Rp K H M' v (.bool n) := by cases r; exact .bl n
theorem o_addI : OpR X (binaryOp .Add) (rd2 X.K C (gI fAdd)) := o_int op_add (fun i j d H Q e k => by cases e; exact ⟨i, j, rfl, rfl, k _ (.int _)⟩) (fun i j d e H M M' v r => by cases e; exact sc_int r)
theorem o_sub : OpR X (binaryOp .Sub) (rd2 X.K C (gI fSub)) := o_int op_sub (fun i j d H Q e k => by cases e; exact ⟨i, j, rfl, rfl, k _ (.int _)⟩) (fun i j d e H M M' v r => by cases e; exact sc_int r)
theorem o_mul : OpR X (binaryOp .Mult) (rd2 X.K C (gI fMul)) := o_int op_mul (fun i j d H Q e k => by
    unfold fMul at e
    split at e
    · rename_i c
      cases e; exact ⟨i, j, rfl, rfl, c, k _ (.int _)⟩
    · cases e) (fun i j d e H M M' v r => by
    unfold fMul at e
    split at e
    · cases e; exact sc_int r
    · cases e)
theorem o_mod : OpR X (binaryOp .Mod) (rd2 X.K C (gI fMod)) := o_int op_mod (fun i j d H Q e k => by
    unfold fMod at e
    split at e
    · rename_i c
      cases e; exact ⟨i, j, rfl, rfl, c, k _ (.int _)⟩
    · cases e) (fun i j d e H M M' v r => by
    unfold fMod at e
    split at e
    · cases e; exact sc_int r
    · cases e)
theorem o_div : OpR X (binaryOp .FloorDiv) (rd2 X.K C (gI fDiv)) := o_int op_fdiv (fun i j d H Q e k => by
    unfold fDiv at e
    split at e
    · rename_i c
      cases e; exact ⟨i, j, rfl, rfl, c, k _ (.int _)⟩
    · cases e) (fun i j d e H M M' v r => by
    unfold fDiv at e
    split at e
    · cases e; exact sc_int r
    · cases e)
theorem o_pow : OpR X (binaryOp .Pow) (rd2 X.K C (gI fPow)) := o_int op_pow (fun i j d H Q e k => by
    unfold fPow at e
    split at e
    · rename_i c
      cases e; exact ⟨i, j, rfl, rfl, c, k _ (.int _)⟩
    · cases e) (fun i j d e H M M' v r => by
    unfold fPow at e
    split at e
    · cases e; exact sc_int r
    · cases e)
theorem o_lt : OpR X (compareOp .Lt) (rd2 X.K C (gI fLt)) := o_int op_lt (fun i j d H Q e k => by cases e; exact ⟨i, j, rfl, rfl, k _ (.bl _)⟩) (fun i j d e H M M' v r => by cases e; exact sc_bool r)
theorem o_le : OpR X (compareOp .LtE) (rd2 X.K C (gI fLe)) := o_int op_le (fun i j d H Q e k => by cases e; exact ⟨i, j, rfl, rfl, k _ (.bl _)⟩) (fun i j d e H M M' v r => by cases e; exact sc_bool r)
theorem o_gt : OpR X (compareOp .Gt) (rd2 X.K C (gI fGt)) := o_int op_gt (fun i j d H Q e k => by cases e; exact ⟨i, j, rfl, rfl, k _ (.bl _)⟩) (fun i j d e H M M' v r => by cases e; exact sc_bool r)
theorem o_ge : OpR X (compareOp .GtE) (rd2 X.K C (gI fGe)) := o_int op_ge (fun i j d H Q e k => by cases e; exact ⟨i, j, rfl, rfl, k _ (.bl _)⟩) (fun i j d e H M M' v r => by cases e; exact sc_bool r)
/-! ### == , != of data -/
def shp (d : PyData) : Bool := SeqAt.shaped d
def gEq : G2 := fun s t h => match dat s h, dat t h with
  | some d, some e => if shp d && shp e then some (.bool (PyData.eqv d e)) else none
  | _, _ => none
def gNe : G2 := fun s t h => match dat s h, dat t h with
  | some d, some e => if shp d && shp e then some (.bool (!PyData.eqv d e)) else none
  | _, _ => none
theorem o_eq (hu : X.A.units + 64 < cLine) : OpR X (compareOp .Eq) (rd2 X.K C gEq) := OpR.imp (op_eqD hu) fun x y H Q ⟨ρ, h, s, t, d, S, r1, r2, e, k⟩ => by
  unfold gEq at e
  split at e
  · rename_i a b e1 e2
    split at e
    · rename_i c
      obtain ⟨c1, c2⟩ := Bool.and_eq_true_iff.mp c
      cases e
      exact ⟨a, b, dat_rel S r1 e1, dat_rel S r2 e2, c1, c2, k _ H (Ex.refl _ _ _) S (.bl _)⟩
    · cases e
  · cases e
theorem o_ne (hu : X.A.units + 64 < cLine) : OpR X (compareOp .NotEq) (rd2 X.K C gNe) := OpR.imp (op_neD hu) fun x y H Q ⟨ρ, h, s, t, d, S, r1, r2, e, k⟩ => by
  unfold gNe at e
  split at e
  · rename_i a b e1 e2
    split at e
    · rename_i c
      obtain ⟨c1, c2⟩ := Bool.and_eq_true_iff.mp c
      cases e
      exact ⟨a, b, dat_rel S r1 e1, dat_rel S r2 e2, c1, c2, k _ H (Ex.refl _ _ _) S (.bl _)⟩
    · cases e
  · cases e
/-! ### is None -/
def isN : Sl → Bool
  | .val .none => true
  | _ => false
def gIsN : G2 := fun s t _ => match t with
  | .val .none => some (.bool (isN s))
  | _ => none
def gNotN : G2 := fun s t _ => match t with
  | .val .none => some (.bool (!isN s))
  | _ => none
theorem isN_rel {K : PySem.W.Frag} {ρ : Fps} {H : Hp} {v : V} {s : Sl} (r : SlV K C ρ H v s) : decide (v = .non) = isN s := by
  cases s with
  | loc n =>
    obtain ⟨fp, a, _, _, rfl⟩ := r
    rfl
  | val d =>
    have r' : Rp K H (Mo C ρ) v d := r
    cases r' <;> rfl
theorem o_is : OpR X (compareOp .Is) (rd2 X.K C gIsN) := OpR.imp op_isN fun x y H Q ⟨ρ, h, s, t, d, S, r1, r2, e, k⟩ => by
  unfold gIsN at e
  split at e
  · cases e
    cases (show Rp X.K H (Mo C ρ) y .none from r2)
    refine ⟨rfl, ?_⟩
    rw [isN_rel r1]
    exact k _ H (Ex.refl _ _ _) S (.bl _)
  · cases e
theorem o_isnot : OpR X (compareOp .IsNot) (rd2 X.K C gNotN) := OpR.imp op_notN fun x y H Q ⟨ρ, h, s, t, d, S, r1, r2, e, k⟩ => by
  unfold gNotN at e
  split at e
  · cases e
    cases (show Rp X.K H (Mo C ρ) y .none from r2)
    refine ⟨rfl, ?_⟩
    rw [isN_rel r1]
    exact k _ H (Ex.refl _ _ _) S (.bl _)
  · cases e
/-! ### subscripts -/
def gIx : G2 := fun s t h => match items s h, t with
  | some ds, .val (.int i) => atI ds i
  | _, _ => none
theorem atI_rel {K : PySem.W.Frag} {H : Hp} {M : Ms} {vs : List V} {ds : List PyData} {i : Int} {d : PyData} (r : RpAll K H M vs ds) (e : atI ds i = some d) : ∃ v, atI vs i = some v ∧ Rp K H M v d := by
  unfold atI at e ⊢
  rw [r.length]
  cases q : ixN ds.length i with
  | none => rw [q] at e; cases e
  | some j =>
    rw [q] at e
    exact r.get e
theorem i_ix : IxR X (rd2 X.K C gIx) := IxR.imp ix_seq fun x y H Q ⟨ρ, h, s, t, d, S, r1, r2, e, k⟩ => by
  unfold gIx at e
  split at e
  · rename_i ds i e1
    cases (show Rp X.K H (Mo C ρ) y (.int i) from r2)
    obtain ⟨a, vs, rfl, sq, ra⟩ := items_rel S r1 e1
    obtain ⟨v, ev, rv⟩ := atI_rel ra e
    have fin := k v H (Ex.refl _ _ _) S rv
    rcases sq with sq | sq
    · exact .inl ⟨a, vs, i, v, rfl, rfl, sq, ev, fin⟩
    · exact .inr (.inl ⟨a, vs, i, v, rfl, rfl, sq, ev, fin⟩)
  · cases e
end
/-! ### builtins -/
def gLen : GL := fun ss h => match ss with
  | [s] => (items s h).map fun ds => .int ds.length
  | _ => none
def bools? : List PyData → Option (List Bool)
  | [] => some []
  | .bool b :: r => (bools? r).map (b :: ·)
  | _ :: _ => none
def ints? : List PyData → Option (List Int)
  | [] => some []
  | .int b :: r => (ints? r).map (b :: ·)
  | _ :: _ => none
/-- the items of a list alone -/
def litems (s : Sl) (h : Hs) : Option (List PyData) := match s with
  | .val (.list ds) => some ds
  | .loc n => match h[n]? with
    | some (.lst ds) => some ds
    | _ => none
  | _ => none
def gAll : GL := fun ss h => match ss with
  | [s] => ((litems s h).bind bools?).map fun bs => .bool (bs.all id)
  | _ => none
def gAny : GL := fun ss h => match ss with
  | [s] => ((litems s h).bind bools?).map fun bs => .bool (bs.any id)
  | _ => none
def gSum : GL := fun ss h => match ss with
  | [s] => ((litems s h).bind ints?).map fun bs => .int bs.sum
  | _ => none
def gInt : GL := fun ss _ => match ss with
  | [.val (.int i)] => some (.int i)
  | [.val (.bool b)] => some (.int (if b then 1 else 0))
  | _ => none
def gMax2 : GL := fun ss _ => match ss with
  | [.val (.int i), .val (.int j)] => some (.int (if j > i then j else i))
  | _ => none
def gMin2 : GL := fun ss _ => match ss with
  | [.val (.int i), .val (.int j)] => some (.int (if j < i then j else i))
  | _ => none
def gAbs : GL := fun ss _ => match ss with
  | [.val (.int i)] => some (.int (if i < 0 then -i else i))
  | _ => none
def gTuple : GL := fun ss h => match ss with
  | [s] => (items s h).map fun ds => .tuple ds
  | _ => none
def gList : GL := fun ss h => match ss with
  | [s] => (items s h).map fun ds => .list ds
  | _ => none
section
variable {K : PySem.W.Frag} {C : Fc} {ρ : Fps} {H : Hp} {h : Hs} {v : V} {s : Sl}
theorem litems_rel {ds : List PyData} (S : SimH K C ρ h H) (r : SlV K C ρ H v s) (e : litems s h = some ds) : ∃ a vs, v = .ref a ∧ SqL K H a vs ∧ RpAll K H (Mo C ρ) vs ds := by
  unfold litems at e
  split at e
  · cases e
    cases (show Rp K H (Mo C ρ) v (.list ds) from r) with
    | lst q a => exact ⟨_, _, rfl, q.sq, a⟩
  · rename_i n
    obtain ⟨fp, a, e1, e2, rfl⟩ := r
    split at e
    · rename_i ds' e3
      cases e
      obtain ⟨_, vs, q, a⟩ := S.lst e1 e2 e3
      exact ⟨_, vs, rfl, SqL.of q, a⟩
    · cases e
  · cases e
theorem bools_rel : ∀ {M : Ms} {vs : List V} {ds : List PyData} {bs : List Bool}, RpAll K H M vs ds → bools? ds = some bs → vs = bs.map V.bl
  | _, _, [], bs, .nil, e => by
    have e' : some ([] : List Bool) = some bs := e
    cases e'; rfl
  | _, _, .bool b :: r, bs, .cons q t, e => by
    cases q
    have e' : (bools? r).map (b :: ·) = some bs := e
    cases z : bools? r with
    | none => rw [z] at e'; cases e'
    | some cs =>
      rw [z] at e'
      cases e'
      rw [bools_rel t z]; rfl
  | _, _, .none :: _, _, .cons _ _, e => by cases (show none = some _ from e)
  | _, _, .int _ :: _, _, .cons _ _, e => by cases (show none = some _ from e)
  | _, _, .str _ :: _, _, .cons _ _, e => by cases (show none = some _ from e)
  | _, _, .list _ :: _, _, .cons _ _, e => by cases (show none = some _ from e)
  | _, _, .tuple _ :: _, _, .cons _ _, e => by cases (show none = some _ from e)
  | _, _, .dict _ :: _, _, .cons _ _, e => by cases (show none = some _ from e)
theorem ints_rel : ∀ {M : Ms} {vs : List V} {ds : List PyData} {bs : List Int}, RpAll K H M vs ds → ints? ds = some bs → vs = bs.map V.int
  | _, _, [], bs, .nil, e => by
    have e' : some ([] : List Int) = some bs := e
    cases e'; rfl
  | _, _, .int b :: r, bs, .cons q t, e => by
    cases q
    have e' : (ints? r).map (b :: ·) = some bs := e
    cases z : ints? r with
    | none => rw [z] at e'; cases e'
    | some cs =>
      rw [z] at e'
      cases e'
      rw [ints_rel t z]; rfl
  | _, _, .none :: _, _, .cons _ _, e => by cases (show none = some _ from e)
  | _, _, .bool _ :: _, _, .cons _ _, e => by cases (show none = some _ from e)
  | _, _, .str _ :: _, _, .cons _ _, e => by cases (show none = some _ from e)
  | _, _, .list _ :: _, _, .cons _ _, e => by cases (show none = some _ from e)
  | _, _, .tuple _ :: _, _, .cons _ _, e => by cases (show none = some _ from e)
  | _, _, .dict _ :: _, _, .cons _ _, e => by cases (show none = some _ from e)
theorem SlVs.one {xs : List V} (r : SlVs K C ρ H xs [s]) : ∃ x, xs = [x] ∧ SlV K C ρ H x s := by
  cases r with
  | cons a b => cases b; exact ⟨_, rfl, a⟩
theorem SlVs.two {t : Sl} {xs : List V} (r : SlVs K C ρ H xs [s, t]) : ∃ x y, xs = [x, y] ∧ SlV K C ρ H x s ∧ SlV K C ρ H y t := by
  cases r with
  | cons a b =>
    cases b with
    | cons c d => cases d; exact ⟨_, _, rfl, a, c⟩
end
section
variable {X : Cx} {C : Fc}
theorem map_some {α β : Type} {o : Option α} {f : α → β} {b : β} (e : o.map f = some b) : ∃ a, o = some a ∧ b = f a := by
  cases o with
  | none => cases e
  | some a => cases e; exact ⟨a, rfl, rfl⟩
theorem bind_some {α β : Type} {o : Option α} {f : α → Option β} {b : β} (e : o.bind f = some b) : ∃ a, o = some a ∧ f a = some b := by
  cases o with
  | none => cases e
  | some a => exact ⟨a, rfl, e⟩
theorem c_len : CallR X (.builtin "len") (rdC X.K C gLen) := CallR.imp call_len_seq fun xs H Q ⟨ρ, h, ss, d, S, r, e, k⟩ => by
  unfold gLen at e
  split at e
  · obtain ⟨x, rfl, ro⟩ := r.one
    obtain ⟨ds, e1, rfl⟩ := map_some e
    obtain ⟨a, vs, rfl, sq, ra⟩ := items_rel S ro e1
    refine ⟨a, vs, rfl, sq, ?_⟩
    rw [ra.length]
    exact k _ H (Ex.refl _ _ _) S (.int _)
  · cases e
theorem c_all (hc : X.calm = true) : CallR X (.builtin "all") (rdC X.K C gAll) := CallR.imp (cr_all hc) fun xs H Q ⟨ρ, h, ss, d, S, r, e, k⟩ => by
  unfold gAll at e
  split at e
  · obtain ⟨x, rfl, ro⟩ := r.one
    obtain ⟨bs, e1, rfl⟩ := map_some e
    obtain ⟨ds, e2, e3⟩ := bind_some e1
    obtain ⟨a, vs, rfl, sq, ra⟩ := litems_rel S ro e2
    have ev := bools_rel ra e3
    subst ev
    exact ⟨a, bs, rfl, sq, k _ H (Ex.refl _ _ _) S (.bl _)⟩
  · cases e
theorem c_any (hc : X.calm = true) : CallR X (.builtin "any") (rdC X.K C gAny) := CallR.imp (cr_any hc) fun xs H Q ⟨ρ, h, ss, d, S, r, e, k⟩ => by
  unfold gAny at e
  split at e
  · obtain ⟨x, rfl, ro⟩ := r.one
    obtain ⟨bs, e1, rfl⟩ := map_some e
    obtain ⟨ds, e2, e3⟩ := bind_some e1
    obtain ⟨a, vs, rfl, sq, ra⟩ := litems_rel S ro e2
    have ev := bools_rel ra e3
    subst ev
    exact ⟨a, bs, rfl, sq, k _ H (Ex.refl _ _ _) S (.bl _)⟩
  · cases e
theorem c_sum (hc : X.calm = true) : CallR X (.builtin "sum") (rdC X.K C gSum) := CallR.imp (cr_sum hc) fun xs H Q ⟨ρ, h, ss, d, S, r, e, k⟩ => by
  unfold gSum at e
  split at e
  · obtain ⟨x, rfl, ro⟩ := r.one
    obtain ⟨bs, e1, rfl⟩ := map_some e
    obtain ⟨ds, e2, e3⟩ := bind_some e1
    obtain ⟨a, vs, rfl, sq, ra⟩ := litems_rel S ro e2
    have ev := ints_rel ra e3
    subst ev
    exact ⟨a, bs, rfl, sq, k _ H (Ex.refl _ _ _) S (.int _)⟩
  · cases e
theorem c_int : CallR X (.type "int") (rdC X.K C gInt) := CallR.imp call_int1 fun xs H Q ⟨ρ, h, ss, d, S, r, e, k⟩ => by
  unfold gInt at e
  split at e
  · rename_i i
    obtain ⟨x, rfl, ro⟩ := r.one
    cases (show Rp X.K H (Mo C ρ) x (.int i) from ro)
    cases e
    exact .inl ⟨i, rfl, k _ H (Ex.refl _ _ _) S (.int _)⟩
  · rename_i b
    obtain ⟨x, rfl, ro⟩ := r.one
    cases (show Rp X.K H (Mo C ρ) x (.bool b) from ro)
    cases e
    exact .inr ⟨b, rfl, k _ H (Ex.refl _ _ _) S (.int _)⟩
  · cases e
theorem c_max2 (hc : X.calm = true) : CallR X (.builtin "max") (rdC X.K C gMax2) := CallR.imp (call_max2 hc) fun xs H Q ⟨ρ, h, ss, d, S, r, e, k⟩ => by
  unfold gMax2 at e
  split at e
  · rename_i i j
    obtain ⟨x, y, rfl, r1, r2⟩ := r.two
    cases (show Rp X.K H (Mo C ρ) x (.int i) from r1)
    cases (show Rp X.K H (Mo C ρ) y (.int j) from r2)
    cases e
    exact ⟨i, j, rfl, k _ H (Ex.refl _ _ _) S (.int _)⟩
  · cases e
theorem c_min2 (hc : X.calm = true) : CallR X (.builtin "min") (rdC X.K C gMin2) := CallR.imp (call_min2 hc) fun xs H Q ⟨ρ, h, ss, d, S, r, e, k⟩ => by
  unfold gMin2 at e
  split at e
  · rename_i i j
    obtain ⟨x, y, rfl, r1, r2⟩ := r.two
    cases (show Rp X.K H (Mo C ρ) x (.int i) from r1)
    cases (show Rp X.K H (Mo C ρ) y (.int j) from r2)
    cases e
    exact ⟨i, j, rfl, k _ H (Ex.refl _ _ _) S (.int _)⟩
  · cases e
theorem c_abs : CallR X (.builtin "abs") (rdC X.K C gAbs) := CallR.imp call_abs fun xs H Q ⟨ρ, h, ss, d, S, r, e, k⟩ => by
  unfold gAbs at e
  split at e
  · rename_i i
    obtain ⟨x, rfl, ro⟩ := r.one
    cases (show Rp X.K H (Mo C ρ) x (.int i) from ro)
    cases e
    exact ⟨i, rfl, k _ H (Ex.refl _ _ _) S (.int _)⟩
  · cases e
theorem c_list : CallR X (.type "list") (rdC X.K C gList) := CallR.imp call_list_of fun xs H Q ⟨ρ, h, ss, d, S, r, e, k⟩ => by
  unfold gList at e
  split at e
  · obtain ⟨x, rfl, ro⟩ := r.one
    obtain ⟨ds, e1, rfl⟩ := map_some e
    obtain ⟨a, vs, rfl, sq, ra⟩ := items_rel S ro e1
    exact ⟨a, vs, rfl, sq, fun p hp => k _ _ (Ex.laid S hp) (S.laid hp) (Rp.newLst S hp ra)⟩
  · cases e
theorem c_tuple : CallR X (.type "tuple") (rdC X.K C gTuple) := CallR.imp call_tuple_of fun xs H Q ⟨ρ, h, ss, d, S, r, e, k⟩ => by
  unfold gTuple at e
  split at e
  · rename_i s
    obtain ⟨x, rfl, ro⟩ := r.one
    obtain ⟨ds, e1, rfl⟩ := map_some e
    by_cases ht : s = .val (.tuple ds)
    · subst ht
      have r' : Rp X.K H (Mo C ρ) x (.tuple ds) := ro
      cases r' with
      | tup q a => exact ⟨_, _, rfl, .inr ⟨q.sq, k _ H (Ex.refl _ _ _) S (.tup q a)⟩⟩
    · have e2 : litems s h = some ds := by
        unfold items at e1
        unfold litems
        split at e1
        · exact e1
        · cases e1; exact absurd rfl ht
        · exact e1
        · cases e1
      obtain ⟨a, vs, rfl, sq, ra⟩ := litems_rel S ro e2
      exact ⟨a, vs, rfl, .inl ⟨sq, fun p hp => k _ _ (Ex.laid S hp) (S.laid hp) (Rp.newTup S hp ra)⟩⟩
  · cases e
variable {Wx : WX} {x : Str} {p pos : Pos} {e : Expr} {es : List Expr} {f : Av} {id T : String} {g : GL}
theorem fe_callB (hc : CallR X (.builtin id) (rdC X.K C g)) (hg : Gl X x) (hm : X.mg x = none) (hv : bootBuiltins x = some (.builtin id)) (ha : FA X C Wx (e :: es) f) (hn : x ≠ "__name__" := by decide) (hdb : (x == ("__debug__" : Str)) = false := by decide)
    (he : starEach (e :: es) X.env = (false, eval e X.env) :: starEach es X.env := by rfl) (hpl : (backTo pos (starEach es X.env)).any (·.1) = false := by rfl) : FE X C Wx (.Call (.Name x p) (e :: es) [] pos) (cCB g f) :=
  PE.imp (pe_callB hc hg hm hv ha hn hdb he hpl) fun _ _ _ => rd.cb
theorem fe_callTy (hc : CallR X (.type T) (rdC X.K C g)) (hg : Gl X x) (hm : X.mg x = none) (hv : bootBuiltins x = some (.type T)) (ha : FA X C Wx (e :: es) f) (hn : x ≠ "__name__" := by decide) (hdb : (x == ("__debug__" : Str)) = false := by decide)
    (he : starEach (e :: es) X.env = (false, eval e X.env) :: starEach es X.env := by rfl) (hpl : (backTo pos (starEach es X.env)).any (·.1) = false := by rfl) : FE X C Wx (.Call (.Name x p) (e :: es) [] pos) (cCB g f) :=
  PE.imp (pe_callTy hc hg hm hv ha hn hdb he hpl) fun _ _ _ => rd.cb
end
/-! ### isinstance of data -/
def tyN (s : Sl) (h : Hs) : Option String := match s with
  | .val .none => some "NoneType"
  | .val (.bool _) => some "bool"
  | .val (.int _) => some "int"
  | .val (.str _) => some "str"
  | .val (.list _) => some "list"
  | .val (.tuple _) => some "tuple"
  | .val (.dict _) => none
  | .loc n => match h[n]? with
    | some (.lst _) => some "list"
    | _ => none
def isaN (c t : String) : Bool := (t == c) || (c == "int" && t == "bool")
def gIsa (c : String) : Sl → Hs → Option PyData := fun s h => (tyN s h).map fun t => .bool (isaN c t)
theorem tyN_rel {K : PySem.W.Frag} {C : Fc} {ρ : Fps} {H : Hp} {h : Hs} {v : V} {s : Sl} {t : String} (S : SimH K C ρ h H) (r : SlV K C ρ H v s) (e : tyN s h = some t) : TyX K H v (.type t) := by
  unfold tyN at e
  split at e
  · cases e; cases (show Rp K H (Mo C ρ) v .none from r); exact .base .non
  · cases e; rename_i b; cases (show Rp K H (Mo C ρ) v (.bool b) from r); exact .base (.bl _)
  · cases e; rename_i b; cases (show Rp K H (Mo C ρ) v (.int b) from r); exact .base (.int _)
  · cases e; rename_i b; cases (show Rp K H (Mo C ρ) v (.str b) from r); exact .base (.str _)
  · cases e; rename_i b
    cases (show Rp K H (Mo C ρ) v (.list b) from r) with
    | lst q a =>
      rcases q with ⟨q | ⟨o, q⟩, _⟩ | ⟨o, its, n, q, c, _⟩
      · exact .base (.lst q)
      · exact .base (.frz q)
      · exact .kList q c
  · cases e; rename_i b
    cases (show Rp K H (Mo C ρ) v (.tuple b) from r) with
    | tup q a =>
      rcases q with ⟨q | ⟨o, q⟩, _⟩ | ⟨o, its, n, q, c, _⟩
      · exact .base (.tup q)
      · exact .fTuple q
      · exact .kTuple q c
  · cases e
  · rename_i n
    obtain ⟨fp, a, e1, e2, rfl⟩ := r
    split at e
    · rename_i ds' e3
      cases e
      obtain ⟨_, vs, q, a⟩ := S.lst e1 e2 e3
      exact .base (.lst q)
    · cases e
theorem isaN_kit {c t : String} (hc : c ∈ ["int", "bool", "tuple", "str", "list"]) (ht : t ∈ ["NoneType", "bool", "int", "str", "list", "tuple"]) : kitB t c = some (isaN c t) := by
  have all : ∀ c ∈ ["int", "bool", "tuple", "str", "list"], ∀ t ∈ ["NoneType", "bool", "int", "str", "list", "tuple"], kitB t c = some (isaN c t) := by decide +kernel
  exact all c hc t ht
theorem tyN_mem {s : Sl} {h : Hs} {t : String} (e : tyN s h = some t) : t ∈ ["NoneType", "bool", "int", "str", "list", "tuple"] := by
  unfold tyN at e
  split at e <;> first | (cases e; decide) | (cases e) | skip
  split at e <;> first | (cases e; decide) | (cases e)
section
variable {X : Cx} {C : Fc} {Wx : WX} {x y : Str} {p q pos : Pos} {e : Expr} {f : Ev} {c : String}
/-- isinstance(e, c), c a built-in class by its name -/
theorem fe_isa (hcl : c ∈ ["int", "bool", "tuple", "str", "list"]) (hg : Gl X "isinstance") (hm : X.mg "isinstance" = none) (hg2 : Gl X y) (hm2 : X.mg y = none) (hv2 : bootBuiltins y = some (.type c)) (ha : FE X C Wx e f)
    (hn2 : y ≠ "__name__" := by decide) (hd2 : (y == ("__debug__" : Str)) = false := by decide)
    (hs1 : starEach (e :: [.Name y q]) X.env = (false, eval e X.env) :: starEach [.Name y q] X.env := by rfl) (hs2 : starEach (Expr.Name y q :: []) X.env = (false, eval (.Name y q) X.env) :: starEach [] X.env := by rfl)
    (hpl : (backTo pos (starEach [Expr.Name y q] X.env)).any (·.1) = false := by rfl) : FE X C Wx (.Call (.Name "isinstance" p) [e, .Name y q] [] pos) (cUn (gIsa c) f) := by
  have hA : PA X [e, .Name y q] (tCons (rd X.K X.mg C Wx (relE X.K C) f) (tCons (tC (.ty c)) tNil)) := pa_cons ha (pa_cons (pe_bltn (v := .ty c) hg2 hm2 hv2 rfl hn2 hd2) pa_nil hs2) hs1
  refine PE.imp (pe_callB call_isi hg hm (by decide +kernel) hA (by decide) (by decide) hs1 hpl) fun σ H Q pp => ?_
  refine rd.bind (f := f) (g := fun s env h => .give (gIsa c s h) h) pp fun ρ1 env h1 s v H1 S1 E1 r1 P1 => ?_
  obtain ⟨d, e1, k⟩ := P1.given
  obtain ⟨t, e2, rfl⟩ := map_some e1
  exact ⟨v, .ty c, .type t, .type c, isaN c t, rfl, .ty c, tyN_rel S1 r1 e2, kit_ty (isaN_kit hcl (tyN_mem e2)), k _ H1 (Ex.refl _ _ _) S1 (.bl _)⟩
end
/-! ### slices -/
def oNone : En → Hs → Rz (Option Int) := fun _ h => .ok none h
def oSome (f : Ev) : En → Hs → Rz (Option Int) := fun env h => (f env h).bind fun s h => match s with
  | .val (.int i) => .ok (some i) h
  | _ => .bad
def cutD (ds : List PyData) (lo hi : Option Int) : List PyData := (ds.drop (HT.sIx ds.length 0 lo)).take (HT.sIx ds.length ds.length hi - HT.sIx ds.length 0 lo)
def gCut (s : Sl) (lo hi : Option Int) (h : Hs) : Option PyData := match s with
  | .val (.tuple ds) => some (.tuple (cutD ds lo hi))
  | .val (.list ds) => some (.list (cutD ds lo hi))
  | .loc n => match h[n]? with
    | some (.lst ds) => some (.list (cutD ds lo hi))
    | _ => none
  | _ => none
def eSl (f : Ev) (lo hi : En → Hs → Rz (Option Int)) : Ev := fun env h => (f env h).bind fun s h => (lo env h).bind fun l h => (hi env h).bind fun u h => .give (gCut s l u h) h
section
variable {X : Cx} {C : Fc} {Wx : WX} {e : Expr} {f : Ev}
theorem fo_none : FO X C Wx none oNone := PO.imp po_none fun σ H Q ⟨ρ, env, h, S, E, P⟩ => P ρ none H (Ex.refl _ _ _) S rfl
theorem fo_some (ha : FE X C Wx e f) : FO X C Wx (some e) (oSome f) := PO.imp (po_some ha) fun σ H Q p => by
  refine rd.bind (f := f) (g := fun s env h => match s with
    | .val (.int i) => (.ok (some i) h : Rz (Option Int))
    | _ => .bad) p fun ρ1 env h1 s v H1 S1 E1 r1 P1 => ?_
  cases s with
  | loc n => exact P1.elim
  | val d =>
    cases d with
    | int i =>
      cases (show Rp X.K H1 (Mo C ρ1) v (.int i) from r1)
      exact ⟨i, rfl, P1 ρ1 (some i) H1 (Ex.refl _ _ _) S1 rfl⟩
    | _ => exact P1.elim
theorem cut_rel {K : PySem.W.Frag} {H : Hp} {M : Ms} {vs : List V} {ds : List PyData} {lo hi : Option Int} (r : RpAll K H M vs ds) : RpAll K H M (cutV vs lo hi) (cutD ds lo hi) := by
  unfold cutV cutD
  rw [r.length]
  exact (r.drop _).take _
theorem cut_whole (ds : List PyData) (lo hi : Option Int) (h : HT.sIx ds.length 0 lo = 0 ∧ HT.sIx ds.length ds.length hi = ds.length) : cutD ds lo hi = ds := by
  unfold cutD
  rw [h.1, h.2]
  simp
def rSlD (K : PySem.W.Frag) (C : Fc) : V → Option Int → Option Int → Hp → VK → Prop := fun x lo hi H Q => ∃ ρ h s d, SimH K C ρ h H ∧ SlV K C ρ H x s ∧ gCut s lo hi h = some d ∧
  ∀ v H', Ex C ρ H ρ H' → SimH K C ρ h H' → Rp K H' (Mo C ρ) v d → Q v H'
theorem s_cut : SlR X (rSlD X.K C) := by
  intro pins s σ H x v vl vu lo hi sl Q I rx hs pl pu q
  refine (sl_tupA.or sl_list) pins s σ H x v vl vu lo hi sl Q I rx hs pl pu ?_
  obtain ⟨ρ, h, a, d, S, r, e, k⟩ := q
  unfold gCut at e
  split at e
  · rename_i ds
    cases e
    cases (show Rp X.K H (Mo C ρ) x (.tuple ds) from r) with
    | tup q ra =>
      refine .inl ⟨_, _, rfl, q.sq, fun w => k _ H (Ex.refl _ _ _) S ?_, fun w p hp => k _ _ (Ex.laid S hp) (S.laid hp) (Rp.newTup S hp (cut_rel ra))⟩
      rw [cut_whole ds lo hi (by rw [← ra.length]; exact w)]
      exact .tup q ra
  · rename_i ds
    cases e
    cases (show Rp X.K H (Mo C ρ) x (.list ds) from r) with
    | lst q ra => exact .inr ⟨_, _, rfl, q.sq, fun p hp => k _ _ (Ex.laid S hp) (S.laid hp) (Rp.newLst S hp (cut_rel ra))⟩
  · rename_i n
    obtain ⟨fp, a, e1, e2, rfl⟩ := r
    split at e
    · rename_i ds e3
      cases e
      obtain ⟨_, vs, q, ra⟩ := S.lst e1 e2 e3
      exact .inr ⟨a, vs, rfl, SqL.of q, fun p hp => k _ _ (Ex.laid S hp) (S.laid hp) (Rp.newLst S hp (cut_rel ra))⟩
    · cases e
  · cases e
theorem fe_slice {lo hi : Option Expr} {fl fh : En → Hs → Rz (Option Int)} {pos p2 : Pos} (he : FE X C Wx e f) (hl : FO X C Wx lo fl) (hu : FO X C Wx hi fh) : FE X C Wx (.Subscript e (.Slice lo hi none p2) pos) (eSl f fl fh) :=
  PE.imp (pe_slice s_cut he hl hu) fun σ H Q p => by
    refine rd.bind (f := f) (g := fun s env h => (fl env h).bind fun l h => (fh env h).bind fun u h => .give (gCut s l u h) h) p fun ρ1 env h1 s x H1 S1 E1 r1 P1 => ?_
    refine rd.of S1 E1 (Po.bind (r := fl env h1) P1 fun ρ2 h2 l y H2 _ x2 S2 r2 P2 => ?_)
    have e2 : y = l := r2
    subst e2
    refine rd.of S2 (E1.ex x2) (Po.bind (r := fh env h2) P2 fun ρ3 h3 u z H3 _ x3 S3 r3 P3 => ?_)
    have e3 : z = u := r3
    subst e3
    obtain ⟨d, e, k⟩ := P3.given
    exact ⟨ρ3, h3, s, d, S3, SlV.ex (x2.trans x3) r1, e, k⟩
end
end FL

namespace FL
open PySem PySem.Spec PyProof.Rows L2

/-! ### statements -/
def Rz.fl {α : Type} (r : Rz α) (env : En) (f : α → Hs → Fl) : Fl := match r with
  | .ok a h => f a h
  | .err x h => .err x env h
  | .bad => .bad
def PoS (K : PySem.W.Frag) (mg : Str → Option Value) (C : Fc) (Wx : WX) (D : Ends) (ρ : Fps) (H : Hp) : Fl → Prop
  | .next env' h' => ∀ (ρ' : Fps) (σ' : St) (H' : Hp), Stp (Mo C ρ) H (Mo C ρ') H' → SimH K C ρ' h' H' → EnvOk K C ρ' H' env' σ' → D.nx σ' H'
  | .ret s h' => ∀ (ρ' : Fps) (v : V) (H' : Hp), Stp (Mo C ρ) H (Mo C ρ') H' → SimH K C ρ' h' H' → SlV K C ρ' H' v s → D.rt v H'
  | .brk env' h' => ∀ (ρ' : Fps) (σ' : St) (H' : Hp), Stp (Mo C ρ) H (Mo C ρ') H' → SimH K C ρ' h' H' → EnvOk K C ρ' H' env' σ' → D.bk σ' H'
  | .cont env' h' => ∀ (ρ' : Fps) (σ' : St) (H' : Hp), Stp (Mo C ρ) H (Mo C ρ') H' → SimH K C ρ' h' H' → EnvOk K C ρ' H' env' σ' → D.ct σ' H'
  | .err x env' h' => ∀ (ρ' : Fps) (σ' : St) (H' : Hp) (cls : Value) (d : Option Addr), Stp (Mo C ρ) H (Mo C ρ') H' → SimH K C ρ' h' H' → EnvOk K C ρ' H' env' σ' → XnOk K mg H' (Mo C ρ') x cls d → Wx cls d σ' H'
  | .bad => False
def rdS (K : PySem.W.Frag) (mg : Str → Option Value) (C : Fc) (Wx : WX) (f : Sv) : TS := fun D σ H =>
  ∃ (ρ : Fps) (env : En) (h : Hs), SimH K C ρ h H ∧ EnvOk K C ρ H env σ ∧ PoS K mg C Wx D ρ H (f env h)
abbrev FS (X : Cx) (C : Fc) (Wx : WX) (st : Stmt) (f : Sv) : Prop := PS X st (rdS X.K X.mg C Wx f)
abbrev FSs (X : Cx) (C : Fc) (Wx : WX) (st : List Stmt) (f : Sv) : Prop := PSs X st (rdS X.K X.mg C Wx f)
section
variable {K : PySem.W.Frag} {mg : Str → Option Value} {C : Fc} {Wx : WX} {σ : St} {H : Hp} {D : Ends}
theorem PoS.stp {ρ ρ1 : Fps} {H1 : Hp} {r : Fl} (x : Stp (Mo C ρ) H (Mo C ρ1) H1) (p : PoS K mg C Wx D ρ H r) : PoS K mg C Wx D ρ1 H1 r := by
  cases r with
  | next e h => exact fun ρ' σ' H' s S E => p ρ' σ' H' (x.trans s) S E
  | ret e h => exact fun ρ' σ' H' s S E => p ρ' σ' H' (x.trans s) S E
  | brk e h => exact fun ρ' σ' H' s S E => p ρ' σ' H' (x.trans s) S E
  | cont e h => exact fun ρ' σ' H' s S E => p ρ' σ' H' (x.trans s) S E
  | err y e h => exact fun ρ' σ' H' c d s S E => p ρ' σ' H' c d (x.trans s) S E
  | bad => exact p
/-- an expression at the head of a statement -/
theorem rdS.bind {α β : Type} {r1 : Fps → Hp → β → α → Prop} {f : En → Hs → Rz α} {g : α → En → Hs → Fl} (p : rdS K mg C Wx (fun env h => (f env h).fl env fun a h => g a env h) D σ H) {R : β → Hp → Prop}
    (k : ∀ ρ1 env h1 a b H1, SimH K C ρ1 h1 H1 → EnvOk K C ρ1 H1 env σ → r1 ρ1 H1 b a → PoS K mg C Wx D ρ1 H1 (g a env h1) → R b H1) : rd K mg C Wx r1 f σ H R := by
  obtain ⟨ρ, env, h, S, E, P⟩ := p
  refine ⟨ρ, env, h, S, E, ?_⟩
  have P' : PoS K mg C Wx D ρ H ((f env h).fl env fun a h => g a env h) := P
  cases e : f env h with
  | ok a h1 =>
    intro ρ1 b H1 x S1 q
    rw [e] at P'
    exact k ρ1 env h1 a b H1 S1 (E.ex x) q (PoS.stp (r := g a env h1) x.stp P')
  | err y h1 =>
    rw [e] at P'
    exact fun ρ' H' cls d s S' q => P' ρ' σ H' cls d s.stp S' (E.ex s) q
  | bad => rw [e] at P'; exact P'
end
theorem PSs.one_ {X : Cx} {st : Stmt} {t : TS} (h : PS X st t) : PSs X [st] t := pss_one h
def sNil : Sv := fun env h => .next env h
def sSeq (f g : Sv) : Sv := fun env h => match f env h with
  | .next e h => g e h
  | r => r
def sExp (f : Ev) : Sv := fun env h => (f env h).fl env fun _ h => .next env h
def sRet (f : Ev) : Sv := fun env h => (f env h).fl env fun s h => .ret s h
def sIf (c : Tv) (f g : Sv) : Sv := fun env h => (c env h).fl env fun b h => if b = true then f env h else g env h
def sSet (i : Nat) (f : Ev) : Sv := fun env h => (f env h).fl env fun s h => .next (env.set i (some s)) h
def sNever : Sv := fun _ _ => .bad
section
variable {X : Cx} {C : Fc} {Wx : WX} {st : Stmt} {rest : List Stmt} {f g : Sv} {e : Expr} {fe : Ev} {pos : Pos}
theorem fss_nil : FSs X C Wx [] sNil := PSs.imp pss_nil fun D σ H ⟨ρ, env, h, S, E, P⟩ => P ρ σ H (Stp.refl _ _) S E
theorem fss_one (h : FS X C Wx st f) : FSs X C Wx [st] f := pss_one h
theorem fss_cons (h1 : FS X C Wx st f) (h2 : FSs X C Wx rest g) : FSs X C Wx (st :: rest) (sSeq f g) := PSs.imp (pss_cons h1 h2) fun D σ H ⟨ρ, env, h, S, E, P⟩ => by
  refine ⟨ρ, env, h, S, E, ?_⟩
  have P' : PoS X.K X.mg C Wx D ρ H (match f env h with
    | .next e h => g e h
    | r => r) := P
  cases q : f env h with
  | next e h1 =>
    rw [q] at P'
    exact fun ρ' σ' H' s S' E' => ⟨ρ', e, h1, S', E', PoS.stp (r := g e h1) s P'⟩
  | ret _ _ => rw [q] at P'; exact P'
  | brk _ _ => rw [q] at P'; exact P'
  | cont _ _ => rw [q] at P'; exact P'
  | err _ _ _ => rw [q] at P'; exact P'
  | bad => rw [q] at P'; exact P'
theorem fs_pass : FS X C Wx (.Pass pos) sNil := PS.imp ps_pass fun D σ H ⟨ρ, env, h, S, E, P⟩ => P ρ σ H (Stp.refl _ _) S E
theorem fs_doc {x j pos pos'} : FS X C Wx (.Expr (.Constant (.str x) j pos) pos') sNil := PS.imp ps_doc fun D σ H ⟨ρ, env, h, S, E, P⟩ => P ρ σ H (Stp.refl _ _) S E
theorem fs_brk : FS X C Wx (.Break pos) (fun env h => .brk env h) := PS.imp ps_break fun D σ H ⟨ρ, env, h, S, E, P⟩ => P ρ σ H (Stp.refl _ _) S E
theorem fs_cont : FS X C Wx (.Continue pos) (fun env h => .cont env h) := PS.imp ps_continue fun D σ H ⟨ρ, env, h, S, E, P⟩ => P ρ σ H (Stp.refl _ _) S E
theorem fs_never : FS X C Wx st sNever := PS.imp ps_never fun D σ H ⟨ρ, env, h, S, E, P⟩ => P
theorem fs_exp (he : FE X C Wx e fe) (hs : swapsWith e none pos.line X.env = pure false := by rfl) : FS X C Wx (.Expr e pos) (sExp fe) := PS.imp (ps_expr he hs) fun D σ H p =>
  rdS.bind (f := fe) (g := fun _ env h => .next env h) p fun ρ1 env h1 a b H1 S1 E1 r1 P1 => P1 ρ1 σ H1 (Stp.refl _ _) S1 E1
theorem fs_ret (he : FE X C Wx e fe) : FS X C Wx (.Return (some e) pos) (sRet fe) := PS.imp (ps_ret he) fun D σ H p =>
  rdS.bind (f := fe) (g := fun s env h => .ret s h) p fun ρ1 env h1 a b H1 S1 E1 r1 P1 => P1 ρ1 b H1 (Stp.refl _ _) S1 r1
theorem fs_retN : FS X C Wx (.Return none pos) (fun _ h => .ret (.val .none) h) := PS.imp ps_retN fun D σ H ⟨ρ, env, h, S, E, P⟩ => P ρ .non H (Stp.refl _ _) S Rp.non
theorem fs_if {c : Expr} {a b : List Stmt} {tc : Tv} (hc : FT X C Wx c tc) (ha : FSs X C Wx a f) (hb : FSs X C Wx b g) : FS X C Wx (.If c a b pos) (sIf tc f g) := PS.imp (ps_if hc ha hb) fun D σ H p =>
  rdS.bind (f := tc) (g := fun b env h => if b = true then f env h else g env h) p fun ρ1 env h1 a b H1 S1 E1 r1 P1 => by
    have e : b = a := r1
    subst e
    cases b with
    | true => exact ⟨ρ1, env, h1, S1, E1, P1⟩
    | false => exact ⟨ρ1, env, h1, S1, E1, P1⟩
theorem fs_set {i : Nat} {x : Str} {pos' : Pos} (hN : X.N.Nodup) (hi : X.N[i]? = some x) (hx : Loc X.env.scope x) (he : FE X C Wx e fe) (hs : swapsWith e (some (.Name x pos')) pos.line X.env = pure false := by rfl) (hf : X.fn x = true ∨ X.env.scope.names.lookup x = some .local := by first | exact .inl rfl | exact .inr rfl | assumption) :
    FS X C Wx (.Assign [.Name x pos'] e pos) (sSet i fe) := PS.imp (ps_set hN hi hx he hs hf) fun D σ H p =>
  rdS.bind (f := fe) (g := fun s env h => .next (env.set i (some s)) h) p fun ρ1 env h1 a b H1 S1 E1 r1 P1 => P1 ρ1 _ H1 (Stp.refl _ _) S1 (E1.set r1 i)
end

/-! ### targets -/
inductive Tg where
  | nm (i : Nat)
  | tp (ts : List Tg)
mutual
def Tg.put : Tg → PyData → En → Option En
  | .nm i, d, env => some (env.set i (some (.val d)))
  | .tp ts, .tuple ds, env => Tg.puts ts ds env
  | .tp _, _, _ => none
def Tg.puts : List Tg → List PyData → En → Option En
  | [], [], env => some env
  | t :: ts, d :: ds, env => match Tg.put t d env with
    | some e => Tg.puts ts ds e
    | none => none
  | _, _, _ => none
def Tg.slots : Tg → List Nat
  | .nm i => [i]
  | .tp ts => Tg.slotss ts
def Tg.slotss : List Tg → List Nat
  | [] => []
  | t :: ts => Tg.slots t ++ Tg.slotss ts
def Tg.rd (K : PySem.W.Frag) : Tg → TG
  | .nm i => gName i
  | .tp ts => gTup K ts.length (Tg.rds K ts)
def Tg.rds (K : PySem.W.Frag) : List Tg → TGs
  | [] => gNil
  | t :: ts => gCons (Tg.rd K t) (Tg.rds K ts)
end
abbrev FG (X : Cx) (e : Expr) (t : Tg) : Prop := PG X e (t.rd X.K)
abbrev FGs (X : Cx) (es : List Expr) (ts : List Tg) : Prop := PGs X es (Tg.rds X.K ts)
section
variable {X : Cx} {pos : Pos}
theorem fg_nm {i : Nat} {x : Str} (hN : X.N.Nodup) (hi : X.N[i]? = some x) (hx : Loc X.env.scope x) (hf : X.fn x = true ∨ X.env.scope.names.lookup x = some .local := by first | exact .inl rfl | exact .inr rfl | assumption) : FG X (.Name x pos) (.nm i) := pg_name hN hi hx hf
theorem fgs_nil : FGs X [] [] := pgs_nil
theorem fgs_cons {e : Expr} {es : List Expr} {t : Tg} {ts : List Tg} (h1 : FG X e t) (h2 : FGs X es ts) (hs : (assignEach (e :: es) X.env).map (·.2) = assign e X.env :: (assignEach es X.env).map (·.2) := by rfl) : FGs X (e :: es) (t :: ts) := pgs_cons h1 h2 hs
theorem fg_tp {es : List Expr} {k : Nat} {ts : List Tg} (hc : X.calm = true) (h : FGs X es ts) (hn : (assignEach es X.env).length = ts.length := by rfl) (hst : (assignEach es X.env).findIdx? (·.1) = none := by rfl) : FG X (.Tuple es k pos) (.tp ts) := pg_tup hc h hn hst
end
theorem wipe_get (σ : St) (k : Nat) : ∀ vs : List Nat, (wipe σ vs)[k]? = if k ∈ vs then (σ[k]?).map (fun _ => none) else σ[k]?
  | [] => by simp [wipe]
  | v :: vs => by
    show ((wipe σ vs).set v none)[k]? = _
    rw [List.getElem?_set]
    by_cases h : v = k
    · subst h
      rw [if_pos rfl, wipe_length, if_pos List.mem_cons_self]
      by_cases hv : v < σ.length
      · rw [if_pos hv, List.getElem?_eq_getElem hv]; rfl
      · rw [if_neg hv, List.getElem?_eq_none (by omega)]; rfl
    · rw [if_neg h, wipe_get σ k vs]
      by_cases hk : k ∈ vs
      · rw [if_pos hk, if_pos (List.mem_cons_of_mem _ hk)]
      · rw [if_neg hk, if_neg (fun z => by
          rcases List.mem_cons.mp z with z | z
          · exact h z.symm
          · exact hk z)]
theorem wipe_set {σ : St} {i : Nat} {o : Option V} {vs : List Nat} (h : i ∈ vs) : wipe (σ.set i o) vs = wipe σ vs := by
  refine List.ext_getElem? fun k => ?_
  rw [wipe_get, wipe_get]
  by_cases hk : k ∈ vs
  · rw [if_pos hk, if_pos hk]
    by_cases e : i = k
    · subst e
      rw [List.getElem?_set, if_pos rfl]
      by_cases hl : i < σ.length
      · rw [if_pos hl, List.getElem?_eq_getElem hl]; rfl
      · rw [if_neg hl, List.getElem?_eq_none (by omega)]
    · rw [List.getElem?_set_ne e]
  · rw [if_neg hk, if_neg hk]
    have : i ≠ k := fun z => hk (z ▸ h)
    rw [List.getElem?_set_ne this]
/-- what a target does to the slots -/
structure Put (K : PySem.W.Frag) (H : Hp) (M : Ms) (sl : List Nat) (env env' : En) (σ σ' : St) : Prop where
  wipe : ∀ vs : List Nat, (∀ i ∈ sl, i ∈ vs) → L2.wipe σ' vs = L2.wipe σ vs
  env : ∀ (C : Fc) (ρ : Fps), M = Mo C ρ → EnvOk K C ρ H env σ → EnvOk K C ρ H env' σ'
mutual
theorem Tg.ok {K : PySem.W.Frag} {H : Hp} {M : Ms} : ∀ (t : Tg) (v : V) (d : PyData) (σ : St) (env env' : En) (Q : St → Hp → Prop), Rp K H M v d → t.put d env = some env' → (∀ σ', Put K H M t.slots env env' σ σ' → Q σ' H) → t.rd K v σ H Q
  | .nm i, v, d, σ, env, env', Q, r, e, k => by
    have e' : some (env.set i (some (.val d))) = some env' := by simpa [Tg.put] using e
    cases e'
    show gName i v σ H Q
    refine k (σ.set i (some v)) ⟨fun vs h => wipe_set (h i (by simp [Tg.slots])), fun C ρ hM E => ?_⟩
    subst hM
    exact E.set (s := .val d) r i
  | .tp ts, v, d, σ, env, env', Q, r, e, k => by
    cases d with
    | tuple ds =>
      have e' : Tg.puts ts ds env = some env' := by simpa [Tg.put] using e
      cases r with
      | tup q ra =>
        have hl : ds.length = ts.length := Tg.puts_len ts ds env env' e'
        exact ⟨_, _, rfl, q.sq, by rw [ra.length]; exact hl, Tg.oks ts _ ds σ env env' Q ra e' fun σ' p => k σ' (by simpa [Tg.slots] using p)⟩
    | none => simp [Tg.put] at e
    | bool _ => simp [Tg.put] at e
    | int _ => simp [Tg.put] at e
    | str _ => simp [Tg.put] at e
    | list _ => simp [Tg.put] at e
    | dict _ => simp [Tg.put] at e
theorem Tg.oks {K : PySem.W.Frag} {H : Hp} {M : Ms} : ∀ (ts : List Tg) (vs : List V) (ds : List PyData) (σ : St) (env env' : En) (Q : St → Hp → Prop), RpAll K H M vs ds → Tg.puts ts ds env = some env' → (∀ σ', Put K H M (Tg.slotss ts) env env' σ σ' → Q σ' H) → Tg.rds K ts vs σ H Q
  | [], _, [], σ, env, env', Q, r, e, k => by
    cases r
    have e' : some env = some env' := by simpa [Tg.puts] using e
    cases e'
    exact ⟨rfl, k σ ⟨fun _ _ => rfl, fun _ _ _ E => E⟩⟩
  | t :: ts, _, d :: ds, σ, env, env', Q, r, e, k => by
    cases r with
    | cons r1 r2 =>
      cases q : Tg.put t d env with
      | none => simp [Tg.puts, q] at e
      | some e1 =>
        have e2 : Tg.puts ts ds e1 = some env' := by simpa [Tg.puts, q] using e
        refine ⟨_, _, rfl, Tg.ok t _ d σ env e1 _ r1 q fun σ1 p1 => Tg.oks ts _ ds σ1 e1 env' Q r2 e2 fun σ2 p2 => k σ2 ⟨fun vs h => ?_, fun C ρ hM E => p2.env C ρ hM (p1.env C ρ hM E)⟩⟩
        rw [p2.wipe vs fun i m => h i (by simp [Tg.slotss, m]), p1.wipe vs fun i m => h i (by simp [Tg.slotss, m])]
  | [], _, _ :: _, _, _, _, _, _, e, _ => by simp [Tg.puts] at e
  | _ :: _, _, [], _, _, _, _, _, e, _ => by simp [Tg.puts] at e
theorem Tg.puts_len : ∀ (ts : List Tg) (ds : List PyData) (env env' : En), Tg.puts ts ds env = some env' → ds.length = ts.length
  | [], [], _, _, _ => rfl
  | t :: ts, d :: ds, env, env', e => by
    cases q : Tg.put t d env with
    | none => simp [Tg.puts, q] at e
    | some e1 =>
      have e2 : Tg.puts ts ds e1 = some env' := by simpa [Tg.puts, q] using e
      rw [List.length_cons, List.length_cons, Tg.puts_len ts ds e1 env' e2]
  | [], _ :: _, _, _, e => by simp [Tg.puts] at e
  | _ :: _, [], _, _, e => by simp [Tg.puts] at e
end
/-- target = value -/
def sAsg (f : Ev) (t : Tg) : Sv := fun env h => (f env h).fl env fun s h => match s with
  | .val d => match t.put d env with
    | some e => .next e h
    | none => .bad
  | .loc _ => .bad
section
variable {X : Cx} {C : Fc} {Wx : WX} {tg e : Expr} {fe : Ev} {t : Tg} {pos : Pos}
theorem fs_asg (he : FE X C Wx e fe) (hg : FG X tg t) (hs : swapsWithSole [tg] e pos.line X.env = pure false := by rfl) (hw : swappedStores [tg] e X.env = pure none := by rfl)
    (h1 : (assignEach [tg] X.env).map (·.2) = [assign tg X.env] := by rfl) : FS X C Wx (.Assign [tg] e pos) (sAsg fe t) := PS.imp (ps_asg he hg hs hw h1) fun D σ H p => by
  refine rdS.bind (f := fe) (g := fun s env h => match s with
    | .val d => match t.put d env with
      | some e => (.next e h : Fl)
      | none => .bad
    | .loc _ => .bad) p fun ρ1 env h1 a b H1 S1 E1 r1 P1 => ?_
  cases a with
  | loc n => exact P1.elim
  | val d =>
    cases q : t.put d env with
    | none =>
      have P2 : PoS X.K X.mg C Wx D ρ1 H1 (match t.put d env with
        | some e => (.next e h1 : Fl)
        | none => .bad) := P1
      rw [q] at P2
      exact P2.elim
    | some e1 =>
      have P2 : PoS X.K X.mg C Wx D ρ1 H1 (match t.put d env with
        | some e => (.next e h1 : Fl)
        | none => .bad) := P1
      rw [q] at P2
      exact Tg.ok t b d σ env e1 _ r1 q fun σ' p => P2 ρ1 σ' H1 (Stp.refl _ _) S1 (p.env C ρ1 rfl E1)
/-- a, b = x, y (two local names) -/
def sPar (i j : Nat) (f : Av) : Sv := fun env h => (f env h).fl env fun ss h => match ss with
  | [s, t] => .next ((env.set i (some s)).set j (some t)) h
  | _ => .bad
theorem fs_par {i j : Nat} {x y : Str} {a b : Expr} {f : Av} {px py pt : Pos} {kt k2 pt2} (hc : X.calm = true) (hN : X.N.Nodup) (hi : X.N[i]? = some x) (hj : X.N[j]? = some y) (hij : i ≠ j)
    (hx : X.env.scope.names.lookup x = some .local) (hy : X.env.scope.names.lookup y = some .local) (ha : FA X C Wx [a, b] f)
    (hw : swappedStores [.Tuple [.Name x px, .Name y py] kt pt] (.Tuple [a, b] k2 pt2) X.env = pure (some [x, y]))
    (hs : swapsWithSole [.Tuple [.Name x px, .Name y py] kt pt] (.Tuple [a, b] k2 pt2) pos.line X.env = pure false := by rfl) :
    FS X C Wx (.Assign [.Tuple [.Name x px, .Name y py] kt pt] (.Tuple [a, b] k2 pt2) pos) (sPar i j f) := PS.imp (ps_par hc hN hi hj hij hx hy ha hw hs) fun D σ H p => by
  refine rdS.bind (f := f) (g := fun ss env h => match ss with
    | [s, t] => (.next ((env.set i (some s)).set j (some t)) h : Fl)
    | _ => .bad) p fun ρ1 env h1 a b H1 S1 E1 r1 P1 => ?_
  match a, r1, P1 with
  | [s, t], r1, P1 =>
    obtain ⟨v, w, rfl, rv, rw'⟩ := SlVs.two r1
    exact ⟨v, w, rfl, P1 ρ1 _ H1 (Stp.refl _ _) S1 ((E1.set rv i).set rw' j)⟩
  | [], _, P1 => exact P1.elim
  | [_], _, P1 => exact P1.elim
  | _ :: _ :: _ :: _, _, P1 => exact P1.elim
def sPar3 (i j l : Nat) (f : Av) : Sv := fun env h => (f env h).fl env fun ss h => match ss with
  | [s, t, u] => .next (((env.set i (some s)).set j (some t)).set l (some u)) h
  | _ => .bad
/-- name op= e -/
def sAug (i : Nat) (g : G2) (f : Ev) : Sv := fun env h => match env[i]? with
  | some (some s) => (f env h).fl env fun t h => match g s t h with
    | some d => .next (env.set i (some (.val d))) h
    | none => .bad
  | _ => .bad
theorem fs_aug {i : Nat} {x : Str} {op : Operator} {g : G2} {pos' : Pos} (hN : X.N.Nodup) (hi : X.N[i]? = some x) (hx : Loc X.env.scope x) (he : FE X C Wx e fe) (ho : OpR X (inplaceOp op) (rd2 X.K C g)) (hf : X.fn x = true ∨ X.env.scope.names.lookup x = some .local := by first | exact .inl rfl | exact .inr rfl | assumption) :
    FS X C Wx (.AugAssign (.Name x pos') op e pos) (sAug i g fe) := PS.imp (ps_aug hN hi hx he ho hf) fun D σ H ⟨ρ, env, h, S, E, P⟩ => by
  have P' : PoS X.K X.mg C Wx D ρ H (match env[i]? with
    | some (some s) => (fe env h).fl env fun t h => match g s t h with
      | some d => (.next (env.set i (some (.val d))) h : Fl)
      | none => .bad
    | _ => .bad) := P
  split at P'
  · rename_i s q
    obtain ⟨v, e1, r⟩ := E.at_ i s q
    refine ⟨v, e1, ρ, env, h, S, E, ?_⟩
    cases z : fe env h with
    | bad => rw [z] at P'; exact P'
    | err y h1 =>
      rw [z] at P'
      exact fun ρ' H' cls d s S' q => P' ρ' σ H' cls d s.stp S' (E.ex s) q
    | ok t h1 =>
      rw [z] at P'
      intro ρ1 y H1 x1 S1 r1
      have P2 : PoS X.K X.mg C Wx D ρ H (match g s t h1 with
        | some d => (.next (env.set i (some (.val d))) h1 : Fl)
        | none => .bad) := P'
      cases z2 : g s t h1 with
      | none => rw [z2] at P2; exact P2.elim
      | some d =>
        rw [z2] at P2
        exact ⟨ρ1, h1, s, t, d, S1, SlV.ex x1 r, r1, z2, fun w H2 x2 S2 r2 => P2 ρ1 _ H2 (x1.stp.trans x2.stp) S2 (((E.ex x1).ex x2).set (s := .val d) r2 i)⟩
  · exact P'.elim
theorem io_addI : OpR X (inplaceOp .Add) (rd2 X.K C (gI fAdd)) := o_int iop_add (fun i j d H Q e k => by cases e; exact ⟨i, j, rfl, rfl, k _ (.int _)⟩) (fun i j d e H M M' v r => by cases e; exact sc_int r)
theorem io_sub : OpR X (inplaceOp .Sub) (rd2 X.K C (gI fSub)) := o_int iop_sub (fun i j d H Q e k => by cases e; exact ⟨i, j, rfl, rfl, k _ (.int _)⟩) (fun i j d e H M M' v r => by cases e; exact sc_int r)
end
end FL

namespace FL
open PySem PySem.Spec PyProof.Rows L2

/-! ### what is walked -/
/-- the iterator gives the items ds, one by one, as long as nothing but M is changed -/
structure Gvs (K : PySem.W.Frag) (J : It) (ds : List PyData) (M : Ms) (H0 : Hp) : Prop where
  go : ∀ (M' : Ms) (H : Hp) (i : Nat) (d : PyData), Stp M H0 M' H → ds[i]? = some d → J.go i H
  yld : ∀ (M' : Ms) (H : Hp) (i : Nat) (d : PyData) (x : V) (H' : Hp), Stp M H0 M' H → ds[i]? = some d → J.yld i H x H' → (H' = H ∧ Rp K H M' x d) ∨ ∃ T vs es, H T = none ∧ H' = upd H T (.tup vs) ∧ x = .ref T ∧ d = .tuple es ∧ RpAll K H M' vs es
  stop : ∀ (M' : Ms) (H : Hp) (i : Nat), Stp M H0 M' H → ds.length ≤ i → J.stop i H
abbrev relI (K : PySem.W.Frag) (C : Fc) : Fps → Hp → It → List PyData → Prop := fun ρ H J ds => Gvs K J ds (Mo C ρ) H
abbrev FI (X : Cx) (C : Fc) (Wx : WX) (tg iter : Expr) (f : En → Hs → Rz (List PyData)) : Prop := PI X tg iter (rd X.K X.mg C Wx (relI X.K C) f)
theorem PI.imp {X : Cx} {tg e : Expr} {t t' : TI} (h : PI X tg e t) (i : ∀ σ H Q, t' σ H Q → t σ H Q) : PI X tg e t' := ⟨fun pins s σ H Q I q => h.run pins s σ H Q I (i σ H Q q)⟩
theorem PI.two {X : Cx} {tg e : Expr} {t t' u : TI} (h : PI X tg e t) (h' : PI X tg e t') (i : ∀ σ H Q, u σ H Q → t σ H Q ∨ t' σ H Q) : PI X tg e u := ⟨fun pins s σ H Q I q => by
  rcases i σ H Q q with z | z
  · exact h.run pins s σ H Q I z
  · exact h'.run pins s σ H Q I z⟩
theorem Gvs.step {K : PySem.W.Frag} {C : Fc} {J : It} {ds : List PyData} {M : Ms} {H0 : Hp} (G : Gvs K J ds M H0) {ρ : Fps} {h : Hs} {H H' : Hp} {i : Nat} {d : PyData} {x : V} (st : Stp M H0 (Mo C ρ) H) (S : SimH K C ρ h H) (e : ds[i]? = some d) (y : J.yld i H x H') :
    SimH K C ρ h H' ∧ Ex C ρ H ρ H' ∧ Rp K H' (Mo C ρ) x d := by
  rcases G.yld _ H i d x H' st e y with ⟨rfl, r⟩ | ⟨T, vs, es, hT, rfl, rfl, rfl, r⟩
  · exact ⟨S, Ex.refl _ _ _, r⟩
  · exact ⟨S.laid hT, Ex.laid S hT, Rp.newTup S hT r⟩
/-- the items of a list or tuple that is data -/
def srcSeq (f : Ev) : En → Hs → Rz (List PyData) := fun env h => (f env h).bind fun s h => match s with
  | .val (.list ds) => .ok ds h
  | .val (.tuple ds) => .ok ds h
  | _ => .bad
section
variable {X : Cx} {C : Fc} {Wx : WX} {tg l : Expr} {f : Ev}
theorem gvs_list {K : PySem.W.Frag} {H : Hp} {M : Ms} {a : Addr} {xs : List V} {ds : List PyData} (q : QL K H M a xs) (r : RpAll K H M xs ds) : Gvs K (Itl K a) ds M H where
  go := fun M' H' i d s e => by
    obtain ⟨v, ev, _⟩ := r.get e
    exact ⟨xs, v, (q.stp s).sq, ev⟩
  yld := fun M' H' i d x H'' s e y => by
    obtain ⟨rfl, hy⟩ := y
    obtain ⟨v, ev, rv⟩ := r.get e
    have := hy xs (q.stp s).sq
    rw [ev] at this; cases this
    exact .inl ⟨rfl, rv.stp s⟩
  stop := fun M' H' i s hl => ⟨xs, (q.stp s).sq, by rw [r.length]; exact hl⟩
theorem gvs_tup {K : PySem.W.Frag} {H : Hp} {M : Ms} {a : Addr} {xs : List V} {ds : List PyData} (q : QT K H M a xs) (r : RpAll K H M xs ds) : Gvs K (Itt K a) ds M H where
  go := fun M' H' i d s e => by
    obtain ⟨v, ev, _⟩ := r.get e
    exact ⟨xs, v, (q.stp s).sq, ev⟩
  yld := fun M' H' i d x H'' s e y => by
    obtain ⟨rfl, hy⟩ := y
    obtain ⟨v, ev, rv⟩ := r.get e
    have := hy xs (q.stp s).sq
    rw [ev] at this; cases this
    exact .inl ⟨rfl, rv.stp s⟩
  stop := fun M' H' i s hl => ⟨xs, (q.stp s).sq, by rw [r.length]; exact hl⟩
theorem fi_seq (ha : FE X C Wx l f) : FI X C Wx tg l (srcSeq f) := by
  refine PI.two (pi_list ha) (pi_tup ha) fun σ H R ⟨ρ, env, h, S, E, P⟩ => ?_
  have P' : Po X.K X.mg C Wx σ ρ H (relI X.K C) ((f env h).bind fun s h => match s with
    | .val (.list ds) => (.ok ds h : Rz (List PyData))
    | .val (.tuple ds) => .ok ds h
    | _ => .bad) R := P
  cases e : f env h with
  | bad => rw [e] at P'; exact P'.elim
  | err y h1 => rw [e] at P'; exact .inl ⟨ρ, env, h, S, E, by rw [e]; exact P'⟩
  | ok s h1 =>
    rw [e] at P'
    match s, P' with
    | .val (.list ds), P' =>
      refine .inl ⟨ρ, env, h, S, E, ?_⟩
      rw [e]
      intro ρ1 v H1 x1 S1 r1
      cases (show Rp X.K H1 (Mo C ρ1) v (.list ds) from r1) with
      | lst q ra => exact ⟨_, rfl, ⟨_, q.sq⟩, P' ρ1 _ H1 x1 S1 (gvs_list q ra)⟩
    | .val (.tuple ds), P' =>
      refine .inr ⟨ρ, env, h, S, E, ?_⟩
      rw [e]
      intro ρ1 v H1 x1 S1 r1
      cases (show Rp X.K H1 (Mo C ρ1) v (.tuple ds) from r1) with
      | tup q ra => exact ⟨_, rfl, ⟨_, q.sq⟩, P' ρ1 _ H1 x1 S1 (gvs_tup q ra)⟩
    | .val .none, P' => exact P'.elim
    | .val (.bool _), P' => exact P'.elim
    | .val (.int _), P' => exact P'.elim
    | .val (.str _), P' => exact P'.elim
    | .val (.dict _), P' => exact P'.elim
    | .loc _, P' => exact P'.elim
/-- range(n), range(a, b) -/
def upTo (lo : Int) (n : Nat) : List PyData := (List.range n).map fun (k : Nat) => .int (lo + (k : Int))
def rngOk (i : Int) : Bool := decide (-(2 ^ 62) ≤ i ∧ i < 2 ^ 62)
def srcRng1 (f : Av) : En → Hs → Rz (List PyData) := fun env h => (f env h).bind fun ss h => match ss with
  | [.val (.int j)] => if rngOk j then .ok (upTo 0 j.toNat) h else .bad
  | _ => .bad
def srcRng2 (f : Av) : En → Hs → Rz (List PyData) := fun env h => (f env h).bind fun ss h => match ss with
  | [.val (.int i), .val (.int j)] => if rngOk i && rngOk j then .ok (upTo i (j - i).toNat) h else .bad
  | _ => .bad
theorem upTo_get {lo : Int} {n i : Nat} {d : PyData} (e : (upTo lo n)[i]? = some d) : i < n ∧ d = .int (lo + i) := by
  unfold upTo at e
  rw [List.getElem?_map] at e
  by_cases h : i < n
  · rw [List.getElem?_range h] at e
    cases e
    exact ⟨h, rfl⟩
  · rw [List.getElem?_eq_none (by rw [List.length_range]; omega)] at e
    cases e
theorem upTo_len (lo : Int) (n : Nat) : (upTo lo n).length = n := by unfold upTo; simp
theorem gvs_rng {K : PySem.W.Frag} {H : Hp} {M : Ms} (lo : Int) (n : Nat) : Gvs K (Itr lo n) (upTo lo n) M H where
  go := fun M' H' i d s e => (upTo_get e).1
  yld := fun M' H' i d x H'' s e y => by
    obtain ⟨rfl, rfl⟩ := y
    obtain ⟨_, rfl⟩ := upTo_get e
    exact .inl ⟨rfl, .int _⟩
  stop := fun M' H' i s hl => by
    rw [upTo_len] at hl
    exact hl
variable {a b : Expr} {fa : Av} {p pos : Pos}
theorem fi_rng1 (hg : Gl X "range") (hm : X.mg "range" = none) (ha : FA X C Wx [a] fa) (hs : starEach [a] X.env = [(false, eval a X.env)] := by rfl) : FI X C Wx tg (.Call (.Name "range" p) [a] [] pos) (srcRng1 fa) := PI.imp (pi_range1 hg hm ha hs) fun σ H R pp => by
  refine rd.bind (f := fa) (g := fun ss env h => match ss with
    | [.val (.int j)] => if rngOk j then (.ok (upTo 0 j.toNat) h : Rz (List PyData)) else .bad
    | _ => .bad) pp fun ρ1 env h1 ss vs H1 S1 E1 r1 P1 => ?_
  split at P1
  · rename_i j
    obtain ⟨x, rfl, rx⟩ := SlVs.one r1
    cases (show Rp X.K H1 (Mo C ρ1) x (.int j) from rx)
    split at P1
    · rename_i c
      have c' := of_decide_eq_true c
      exact ⟨j, rfl, c'.1, c'.2, P1 ρ1 _ H1 (Ex.refl _ _ _) S1 (gvs_rng 0 j.toNat)⟩
    · exact P1.elim
  · exact P1.elim
theorem fi_rng2 (hg : Gl X "range") (hm : X.mg "range" = none) (ha : FA X C Wx [a, b] fa) (hs : starEach [a, b] X.env = [(false, eval a X.env), (false, eval b X.env)] := by rfl) (hs2 : starEach [b] X.env = [(false, eval b X.env)] := by rfl) : FI X C Wx tg (.Call (.Name "range" p) [a, b] [] pos) (srcRng2 fa) := PI.imp (pi_range2 hg hm ha hs hs2) fun σ H R pp => by
  refine rd.bind (f := fa) (g := fun ss env h => match ss with
    | [.val (.int i), .val (.int j)] => if rngOk i && rngOk j then (.ok (upTo i (j - i).toNat) h : Rz (List PyData)) else .bad
    | _ => .bad) pp fun ρ1 env h1 ss vs H1 S1 E1 r1 P1 => ?_
  split at P1
  · rename_i i j
    obtain ⟨x, y, rfl, rx, ry⟩ := SlVs.two r1
    cases (show Rp X.K H1 (Mo C ρ1) x (.int i) from rx)
    cases (show Rp X.K H1 (Mo C ρ1) y (.int j) from ry)
    split at P1
    · rename_i c
      obtain ⟨c1, c2⟩ := Bool.and_eq_true_iff.mp c
      have c1' := of_decide_eq_true c1
      have c2' := of_decide_eq_true c2
      exact ⟨i, j, rfl, ⟨c1'.1, c1'.2, c2'.1, c2'.2⟩, P1 ρ1 _ H1 (Ex.refl _ _ _) S1 (gvs_rng i (j - i).toNat)⟩
    · exact P1.elim
  · exact P1.elim
end

/-! ### for -/
def cutE (n : Nat) (env : En) : En := env.map fun s => match s with
  | some (.loc k) => if k < n then some (.loc k) else none
  | s => s
theorem cutE_ok {K : PySem.W.Frag} {C : Fc} {ρ : Fps} {H : Hp} {env : En} {σ : St} {n : Nat} (E : EnvOk K C ρ H env σ) : EnvOk K C (ρ.take n) H (cutE n env) σ := by
  refine ⟨by rw [← E.len]; unfold cutE; simp, fun i s e => ?_⟩
  unfold cutE at e
  rw [List.getElem?_map] at e
  cases q : env[i]? with
  | none => rw [q] at e; cases e
  | some o =>
    rw [q] at e
    cases o with
    | none => cases (show some (none : Slot) = some (some s) from e)
    | some t =>
      obtain ⟨v, e1, r⟩ := E.at_ i t q
      cases t with
      | val d =>
        have e' : some (some (Sl.val d)) = some (some s) := e
        cases e'
        exact ⟨v, e1, Rp.fewer (fun _ => Mo.take) r⟩
      | loc k =>
        have e' : some (if k < n then some (Sl.loc k) else none) = some (some s) := e
        split at e'
        · rename_i hk
          cases e'
          obtain ⟨fp, a, e2, e3, e4⟩ := r
          exact ⟨v, e1, fp, a, by rw [List.getElem?_take, if_pos hk]; exact e2, e3, e4⟩
        · cases e'
def loopF (t : Tg) (body : Sv) (n : Nat) : List PyData → En → Hs → Fl
  | [], env, h => .next env h
  | d :: ds, env, h => match t.put d env with
    | none => .bad
    | some e1 => match body e1 h with
      | .next e h => loopF t body n ds (cutE n e) (h.take n)
      | .cont e h => loopF t body n ds (cutE n e) (h.take n)
      | .brk e h => .next (cutE n e) (h.take n)
      | r => r
def sFor (src : En → Hs → Rz (List PyData)) (t : Tg) (body : Sv) : Sv := fun env h => (src env h).fl env fun ds h => loopF t body h.length ds env h
section
variable {X : Cx} {C : Fc} {Wx : WX} {tg iter c : Expr} {body : List Stmt} {src : En → Hs → Rz (List PyData)} {t : Tg} {fb : Sv} {tc : Tv} {pos : Pos}
theorem fs_for (hp : PassesOwn (model X.prog X.w) X.A X.env X.xe) (hc : X.calm = true) (hi : FI X C Wx tg iter src) (hg : FG X tg t) (hb : FSs X C Wx body fb)
    (hs : ∀ x, foldedSetIterable iter X.env x = pure x := by intro _; rfl) : FS X C Wx (.For tg iter body [] pos) (sFor src t fb) := PS.imp (ps_for hp hc hi hg hb hs) fun D σ H p => by
  refine rdS.bind (f := src) (g := fun ds env h => loopF t fb h.length ds env h) p fun ρ1 env1 h1 ds J H1 S1 E1 G P1 => ?_
  have hW0 : C.W.length ≤ h1.length := S1.wlen
  refine ⟨fun i m σ2 H2 => m = ds.length - i ∧ ∃ ρ2 env2 h2, SimH X.K C ρ2 h2 H2 ∧ EnvOk X.K C ρ2 H2 env2 σ2 ∧ Stp (Mo C ρ1) H1 (Mo C ρ2) H2 ∧ PoS X.K X.mg C Wx D ρ2 H2 (loopF t fb h1.length (ds.drop i) env2 h2),
    ⟨ds.length - 0, rfl, ρ1, env1, h1, S1, E1, Stp.refl _ _, P1⟩, fun i m σ2 H2 hW => ?_⟩
  obtain ⟨hm, ρ2, env2, h2, S2, E2, st, P2⟩ := hW
  by_cases hi' : i < ds.length
  · have ed : ds.drop i = ds[i] :: ds.drop (i + 1) := List.drop_eq_getElem_cons hi'
    have ei : ds[i]? = some ds[i] := List.getElem?_eq_getElem hi'
    rw [ed] at P2
    refine .inr ⟨G.go _ H2 i _ st ei, fun σ' H' => ∃ ρ3 env3 h3, SimH X.K C ρ3 h3 H' ∧ EnvOk X.K C ρ3 H' env3 σ' ∧ Stp (Mo C ρ1) H1 (Mo C ρ3) H' ∧ PoS X.K X.mg C Wx D ρ3 H' (loopF t fb h1.length (ds.drop (i + 1)) env3 h3), fun σ' H' hN => ?_, fun x H' y => ?_⟩
    · obtain ⟨ρ3, env3, h3, S3, E3, st3, P3⟩ := hN
      exact ⟨ds.length - (i + 1), by omega, rfl, ρ3, env3, h3, S3, E3, st3, P3⟩
    · obtain ⟨S3, x3, r3⟩ := G.step st S2 ei y
      have P3 : PoS X.K X.mg C Wx D ρ2 H2 (match t.put ds[i] env2 with
        | none => .bad
        | some e1 => match fb e1 h2 with
          | .next e h => loopF t fb h1.length (ds.drop (i + 1)) (cutE h1.length e) (h.take h1.length)
          | .cont e h => loopF t fb h1.length (ds.drop (i + 1)) (cutE h1.length e) (h.take h1.length)
          | .brk e h => .next (cutE h1.length e) (h.take h1.length)
          | r => r) := P2
      cases q : t.put ds[i] env2 with
      | none => rw [q] at P3; exact P3.elim
      | some e1 =>
        rw [q] at P3
        dsimp only at P3
        refine Tg.ok t x ds[i] σ2 env2 e1 _ r3 q fun σ3 pt => ⟨ρ2, e1, h2, S3, pt.env C ρ2 rfl (E2.ex x3), ?_⟩
        cases z : fb e1 h2 with
        | next e h =>
          rw [z] at P3
          exact fun ρ' σ' H'' s S E => ⟨ρ'.take h1.length, _, _, S.take _ hW0, cutE_ok E, (((st.trans x3.stp).trans s).trans (Stp.take _)), PoS.stp (r := loopF t fb h1.length (ds.drop (i + 1)) (cutE h1.length e) (h.take h1.length)) ((x3.stp.trans s).trans (Stp.take _)) P3⟩
        | cont e h =>
          rw [z] at P3
          exact fun ρ' σ' H'' s S E => ⟨ρ'.take h1.length, _, _, S.take _ hW0, cutE_ok E, (((st.trans x3.stp).trans s).trans (Stp.take _)), PoS.stp (r := loopF t fb h1.length (ds.drop (i + 1)) (cutE h1.length e) (h.take h1.length)) ((x3.stp.trans s).trans (Stp.take _)) P3⟩
        | brk e h =>
          rw [z] at P3
          exact fun ρ' σ' H'' s S E => P3 (ρ'.take h1.length) σ' H'' ((x3.stp.trans s).trans (Stp.take _)) (S.take _ hW0) (cutE_ok E)
        | ret s h => rw [z] at P3; exact PoS.stp (r := .ret s h) (D := D) x3.stp P3
        | err y e h => rw [z] at P3; exact PoS.stp (r := .err y e h) (D := D) x3.stp P3
        | bad => rw [z] at P3; exact P3.elim
  · have ed : ds.drop i = [] := List.drop_eq_nil_of_le (by omega)
    rw [ed] at P2
    exact .inl ⟨G.stop _ H2 i st (by omega), P2 ρ2 σ2 H2 (Stp.refl _ _) S2 E2⟩
/-! ### while -/
def loopW (c : Tv) (body : Sv) (n : Nat) : Nat → En → Hs → Fl
  | 0, _, _ => .bad
  | k + 1, env, h => (c env h).fl env fun b h => if b = true then (match body env h with
      | .next e h => loopW c body n k (cutE n e) (h.take n)
      | .cont e h => loopW c body n k (cutE n e) (h.take n)
      | .brk e h => .next (cutE n e) (h.take n)
      | r => r) else .next env h
def sWhile (k : Nat) (c : Tv) (body : Sv) : Sv := fun env h => loopW c body h.length k env h
theorem fs_while (k : Nat) (hp : PassesOwn (model X.prog X.w) X.A X.env X.xe) (hc : FT X C Wx c tc) (hb : FSs X C Wx body fb) : FS X C Wx (.While c body [] pos) (sWhile k tc fb) := PS.imp (ps_while hp hc hb) fun D σ H ⟨ρ0, env0, h0, S0, E0, P0⟩ => by
  have hW0 : C.W.length ≤ h0.length := S0.wlen
  refine ⟨fun m σ2 H2 => ∃ ρ2 env2 h2, SimH X.K C ρ2 h2 H2 ∧ EnvOk X.K C ρ2 H2 env2 σ2 ∧ PoS X.K X.mg C Wx D ρ2 H2 (loopW tc fb h0.length m env2 h2), ⟨k, ρ0, env0, h0, S0, E0, P0⟩, fun m σ2 H2 hW => ?_⟩
  obtain ⟨ρ2, env2, h2, S2, E2, P2⟩ := hW
  cases m with
  | zero => exact P2.elim
  | succ m =>
    refine rdS.bind (Wx := Wx) (mg := X.mg) (D := D) (f := tc) (g := fun b env h => if b = true then (match fb env h with
      | .next e h => loopW tc fb h0.length m (cutE h0.length e) (h.take h0.length)
      | .cont e h => loopW tc fb h0.length m (cutE h0.length e) (h.take h0.length)
      | .brk e h => .next (cutE h0.length e) (h.take h0.length)
      | r => r) else .next env h) ⟨ρ2, env2, h2, S2, E2, P2⟩ fun ρ3 env3 h3 b b' H3 S3 E3 r3 P3 => ?_
    have e : b' = b := r3
    subst e
    cases b' with
    | false =>
      rw [if_neg Bool.false_ne_true] at P3 ⊢
      exact P3 ρ3 σ2 H3 (Stp.refl _ _) S3 E3
    | true =>
      rw [if_pos rfl] at P3 ⊢
      refine ⟨fun σ' H' => ∃ ρ' env' h', SimH X.K C ρ' h' H' ∧ EnvOk X.K C ρ' H' env' σ' ∧ PoS X.K X.mg C Wx D ρ' H' (loopW tc fb h0.length m env' h'), fun σ' H' hN => ⟨m, by omega, hN⟩, ρ3, env3, h3, S3, E3, ?_⟩
      cases z : fb env3 h3 with
      | next e h =>
        rw [z] at P3
        exact fun ρ' σ' H'' s S E => ⟨ρ'.take h0.length, _, _, S.take _ hW0, cutE_ok E, PoS.stp (r := loopW tc fb h0.length m (cutE h0.length e) (h.take h0.length)) (s.trans (Stp.take _)) P3⟩
      | cont e h =>
        rw [z] at P3
        exact fun ρ' σ' H'' s S E => ⟨ρ'.take h0.length, _, _, S.take _ hW0, cutE_ok E, PoS.stp (r := loopW tc fb h0.length m (cutE h0.length e) (h.take h0.length)) (s.trans (Stp.take _)) P3⟩
      | brk e h =>
        rw [z] at P3
        exact fun ρ' σ' H'' s S E => P3 (ρ'.take h0.length) σ' H'' (s.trans (Stp.take _)) (S.take _ hW0) (cutE_ok E)
      | ret s h => rw [z] at P3; exact P3
      | err y e h => rw [z] at P3; exact P3
      | bad => rw [z] at P3; exact P3.elim
end

/-! ### changing lists of the def's own -/
abbrev GM := Sl → List Sl → Hs → Option (PyData × Hs)
def rdM (K : PySem.W.Frag) (C : Fc) (m : GM) : V → List V → Hp → VK → Prop := fun x xs H Q => ∃ ρ h s ss d h', SimH K C ρ h H ∧ SlV K C ρ H x s ∧ SlVs K C ρ H xs ss ∧ m s ss h = some (d, h') ∧
  ∀ v H', Ex C ρ H ρ H' → SimH K C ρ h' H' → Rp K H' (Mo C ρ) v d → Q v H'
def eMt (m : GM) (f : Ev) (fa : Av) : Ev := fun env h => (f env h).bind fun s h => if (litems s h).isSome = true then (fa env h).bind fun ss h => match m s ss h with
  | some (d, h') => .ok (.val d) h'
  | none => .bad else .bad
def mAppend : GM := fun s ss h => match s, ss with
  | .loc n, [.val d] => match h[n]? with
    | some (.lst ds) => if ds.length < 16777216 then some (.none, h.set n (.lst (ds ++ [d]))) else none
    | _ => none
  | _, _ => none
theorem MtR.imp {X : Cx} {id : String} {r r' : V → List V → Hp → VK → Prop} (h : MtR X id r) (i : ∀ x xs H Q, r' x xs H Q → r x xs H Q) : MtR X id r' := fun pins s σ H x xs v us Q I rx rs q => h pins s σ H x xs v us Q I rx rs (i _ _ _ _ q)
section
variable {X : Cx} {C : Fc} {Wx : WX} {o e : Expr} {es : List Expr} {f : Ev} {fa : Av} {name : Str} {apos cpos : Pos} {id : String} {m : GM}
theorem m_append : MtR X "list.append" (rdM X.K C mAppend) := MtR.imp mt_append fun x xs H Q ⟨ρ, h, s, ss, d, h', S, r1, r2, e, k⟩ => by
  unfold mAppend at e
  split at e
  · rename_i n d0
    split at e
    · rename_i ds e3
      split at e
      · rename_i hl
        cases e
        obtain ⟨fp, a, e1, e2, rfl⟩ := r1
        obtain ⟨y, rfl, ry⟩ := SlVs.one r2
        obtain ⟨e1', vs, q, ra⟩ := S.lst e1 e2 e3
        have W := S.write (ob := .lst (ds ++ [d0])) (o := .lst (vs ++ [y])) e1' ⟨a, _, rfl, upd_same, ?_⟩
        · exact ⟨a, vs, y, rfl, rfl, q, by rw [ra.length, sizeLine_eq]; exact hl, k .non _ W.2 W.1 .non⟩
        · have st : Stp (Mo C ρ) H (Mo C ρ) (upd H a (.lst (vs ++ [y]))) := ⟨fun b u z nm => by
            have : b ≠ a := fun w => nm (w ▸ .inl (flat_at e1' (by simp)))
            rw [upd_ne this]; exact z, fun _ mm => .inl mm⟩
          exact (ra.stp st).append (.cons (Rp.stp st ry) .nil)
      · cases e
    · cases e
  · cases e
theorem fe_mt (slot : PySem.Slot "list" name id) (hty : typeOf (.builtin id) = pure (.type "method_descriptor")) (hm : MtR X id (rdM X.K C m)) (ho : FE X C Wx o f) (ha : FA X C Wx (e :: es) fa)
    (hbase : attributeBase o name X.env (eval o X.env) = eval o X.env := by rfl)
    (hfew : ((backTo cpos (starEach (e :: es) X.env)).all (fun x => !x.1) && (backToKw cpos (keywordEach [] X.env)).all (fun x => x.1.isSome)
      && decide ((e :: es).length + ([] : List Keyword).length + (if ([] : List Keyword).isEmpty then 0 else 1) < 30)) = true := by rfl)
    (hline : (apos.endLine == cpos.line) = true := by rfl) (hs : starEach (e :: es) X.env = (false, eval e X.env) :: starEach es X.env := by rfl) (hplain : (backTo cpos (starEach es X.env)).any (·.1) = false := by rfl) :
    FE X C Wx (.Call (.Attribute o name apos) (e :: es) [] cpos) (eMt m f fa) := PE.imp (pe_bm PySem.F.plainAttrs_list slot hty hm ho ha hbase hfew hline hs hplain) fun σ H Q p => by
  refine rd.bind (f := f) (g := fun s env h => if (litems s h).isSome = true then (fa env h).bind fun ss h => match m s ss h with
    | some (d, h') => (.ok (.val d) h' : Rz Sl)
    | none => .bad else .bad) p fun ρ1 env h1 s x H1 S1 E1 r1 P1 => ?_
  split at P1
  · rename_i hl
    obtain ⟨ds, el⟩ := Option.isSome_iff_exists.mp hl
    obtain ⟨a, vs, rfl, sq, ra⟩ := litems_rel S1 r1 el
    refine ⟨.inl ⟨rfl, _, sq⟩, rd.of S1 E1 (Po.bind (r := fa env h1) P1 fun ρ2 h2 ss xs H2 _ x2 S2 r2 P2 => ?_)⟩
    cases q : m s ss h2 with
    | none => rw [q] at P2; exact P2.elim
    | some dh =>
      obtain ⟨d, h'⟩ := dh
      rw [q] at P2
      exact ⟨ρ2, h2, s, ss, d, h', S2, SlV.ex x2 r1, r2, q, fun v H' x S r => P2 ρ2 v H' x S r⟩
  · exact P1.elim
/-! ### o[i] = e, o[i] += e -/
def putAt (s t u : Sl) (h : Hs) : Option Hs := match s, t, u with
  | .loc n, .val (.int i), .val d => match h[n]? with
    | some (.lst ds) => match ixN ds.length i with
      | some j => some (h.set n (.lst (ds.set j d)))
      | none => none
    | _ => none
  | _, _, _ => none
def sPut (fo fi fe : Ev) : Sv := fun env h => (fe env h).fl env fun u h => (fo env h).fl env fun s h => (fi env h).fl env fun t h => match putAt s t u h with
  | some h' => .next env h'
  | none => .bad
theorem put_rel {K : PySem.W.Frag} {ρ : Fps} {h h' : Hs} {H : Hp} {s t u : Sl} {x y v : V} {Q : Hp → Prop} (S : SimH K C ρ h H) (r1 : SlV K C ρ H x s) (r2 : SlV K C ρ H y t) (r3 : SlV K C ρ H v u) (e : putAt s t u h = some h')
    (k : ∀ H', Ex C ρ H ρ H' → SimH K C ρ h' H' → Q H') : rSetL x y v H Q := by
  unfold putAt at e
  split at e
  · rename_i n i d
    split at e
    · rename_i ds e3
      split at e
      · rename_i j e4
        cases e
        obtain ⟨fp, a, e1, e2, rfl⟩ := r1
        cases (show Rp K H (Mo C ρ) y (.int i) from r2)
        obtain ⟨e1', vs, q, ra⟩ := S.lst e1 e2 e3
        have st : Stp (Mo C ρ) H (Mo C ρ) (upd H a (.lst (vs.set j v))) := ⟨fun b w z nm => by
          have : b ≠ a := fun w => nm (w ▸ .inl (flat_at e1' (by simp)))
          rw [upd_ne this]; exact z, fun _ mm => .inl mm⟩
        have W := S.write (ob := .lst (ds.set j d)) (o := .lst (vs.set j v)) e1' ⟨a, _, rfl, upd_same, (ra.stp st).set (Rp.stp st r3) j⟩
        exact ⟨a, vs, i, j, rfl, rfl, q, by rw [ra.length]; exact e4, k _ W.2 W.1⟩
      · cases e
    · cases e
  · cases e
variable {i : Expr} {fo fi fe : Ev} {pos tpos : Pos}
theorem fs_put (ho : FE X C Wx o fo) (hi : FE X C Wx i fi) (he : FE X C Wx e fe)
    (ha : ∀ v, assign (.Subscript o i tpos) X.env v = (do
      let ov ← holding [v] (eval o X.env)
      let iv ← holding [v, ov] (eval i X.env)
      standAt tpos
      holding [v, ov, iv] (setItem ov iv v)
      release [v, ov, iv] []) := by intro _; rfl)
    (hs : swapsWithSole [.Subscript o i tpos] e pos.line X.env = pure false := by rfl) (hw : swappedStores [.Subscript o i tpos] e X.env = pure none := by rfl)
    (h1 : (assignEach [.Subscript o i tpos] X.env).map (·.2) = [assign (.Subscript o i tpos) X.env] := by rfl) : FS X C Wx (.Assign [.Subscript o i tpos] e pos) (sPut fo fi fe) :=
  PS.imp (ps_asg he (pg_sub ho hi set_list ha) hs hw h1) fun D σ H p => by
    refine rdS.bind (f := fe) (g := fun u env h => (fo env h).fl env fun s h => (fi env h).fl env fun t h => match putAt s t u h with
      | some h' => (.next env h' : Fl)
      | none => .bad) p fun ρ1 env h1 u v H1 S1 E1 r1 P1 => ?_
    refine rd.of S1 E1 ?_
    have P1' : PoS X.K X.mg C Wx D ρ1 H1 ((fo env h1).fl env fun s h => (fi env h).fl env fun t h => match putAt s t u h with
      | some h' => (.next env h' : Fl)
      | none => .bad) := P1
    cases q1 : fo env h1 with
    | bad => rw [q1] at P1'; exact P1'
    | err y h2 => rw [q1] at P1'; exact fun ρ' H' cls d s S' q => P1' ρ' σ H' cls d s.stp S' (E1.ex s) q
    | ok s h2 =>
      rw [q1] at P1'
      intro ρ2 x H2 x2 S2 r2
      refine rd.of S2 (E1.ex x2) ?_
      have P2 : PoS X.K X.mg C Wx D ρ1 H1 ((fi env h2).fl env fun t h => match putAt s t u h with
        | some h' => (.next env h' : Fl)
        | none => .bad) := P1'
      cases q2 : fi env h2 with
      | bad => rw [q2] at P2; exact P2
      | err y h3 => rw [q2] at P2; exact fun ρ' H' cls d s S' q => P2 ρ' σ H' cls d (x2.stp.trans s.stp) S' ((E1.ex x2).ex s) q
      | ok t h3 =>
        rw [q2] at P2
        intro ρ3 y H3 x3 S3 r3
        have P3 : PoS X.K X.mg C Wx D ρ1 H1 (match putAt s t u h3 with
          | some h' => (.next env h' : Fl)
          | none => .bad) := P2
        cases q3 : putAt s t u h3 with
        | none => rw [q3] at P3; exact P3.elim
        | some h4 =>
          rw [q3] at P3
          exact put_rel S3 (SlV.ex x3 r2) r3 (SlV.ex (x2.trans x3) r1) q3 fun H4 x4 S4 => P3 ρ3 σ H4 ((x2.stp.trans x3.stp).trans x4.stp) S4 (((E1.ex x2).ex x3).ex x4)
/-- reading an item for an operator -/
theorem pget_list : PGet X (rIxL X.K) := by
  intro pins s σ H o i ov iv Q I ro ri h
  obtain ⟨p, xs, k, z, rfl, rfl, hq, he, q⟩ := h
  cases ro
  obtain ⟨t, rfl⟩ := ri
  obtain ⟨its, r, pl, hz⟩ := I.list hq
  obtain ⟨j, h1, h2, h3, h4, h5⟩ := atI_get he
  obtain ⟨w, ew, rw'⟩ := r.get h2
  have hl := r.length
  have hn := line63
  have fin : EP X pins σ Q w s := ⟨z, H, I, rw', q⟩
  by_cases h0 : 0 ≤ k
  · have hj : k.toNat = j := by
      rw [seqIndex_of h0 h5] at h1
      exact Option.some.inj h1
    exact wpAny_getItem_list pl.isList h0 (by omega) (by rw [hj]; simpa using ew) fin
  · have hj : (k + (its.toArray.size : Int)).toNat = j := by
      rw [seqIndex_neg (by omega) h4] at h1
      rw [List.size_toArray, ← hl]
      exact Option.some.inj h1
    exact wpAny_getItem_list_neg pl.isList (by omega) (by rw [List.size_toArray] <;> omega) (by omega) (by rw [hj]; simpa using ew) fin
def lix (s t : Sl) (h : Hs) : Option PyData := match litems s h, t with
  | some ds, .val (.int i) => atI ds i
  | _, _ => none
def sAugIx (g : G2) (fo fi fe : Ev) : Sv := fun env h => (fo env h).fl env fun s h => (fi env h).fl env fun t h => match lix s t h with
  | some x => (fe env h).fl env fun u h => match g (.val x) u h with
    | some d => match putAt s t (.val d) h with
      | some h' => .next env h'
      | none => .bad
    | none => .bad
  | none => .bad
theorem fs_augIx {op : Operator} {g : G2} (ho : FE X C Wx o fo) (hi : FE X C Wx i fi) (he : FE X C Wx e fe) (hop : OpR X (inplaceOp op) (rd2 X.K C g))
    (ha : ∀ ov iv new, augStore i ov iv new = (do holding [new, ov, iv] (setItem ov iv new); release [new, ov, iv] []; pure .next) := by intros; rfl) : FS X C Wx (.AugAssign (.Subscript o i tpos) op e pos) (sAugIx g fo fi fe) :=
  PS.imp (ps_augS ho hi pget_list he hop set_list ha) fun D σ H p => by
    refine rdS.bind (f := fo) (g := fun s env h => (fi env h).fl env fun t h => match lix s t h with
      | some x => (fe env h).fl env fun u h => match g (.val x) u h with
        | some d => match putAt s t (.val d) h with
          | some h' => (.next env h' : Fl)
          | none => .bad
        | none => .bad
      | none => .bad) p fun ρ1 env h1 s x H1 S1 E1 r1 P1 => ?_
    refine rd.of S1 E1 ?_
    have P1' : PoS X.K X.mg C Wx D ρ1 H1 ((fi env h1).fl env fun t h => match lix s t h with
      | some x => (fe env h).fl env fun u h => match g (.val x) u h with
        | some d => match putAt s t (.val d) h with
          | some h' => (.next env h' : Fl)
          | none => .bad
        | none => .bad
      | none => .bad) := P1
    cases q1 : fi env h1 with
    | bad => rw [q1] at P1'; exact P1'
    | err y h2 => rw [q1] at P1'; exact fun ρ' H' cls d s S' q => P1' ρ' σ H' cls d s.stp S' (E1.ex s) q
    | ok t h2 =>
      rw [q1] at P1'
      intro ρ2 y H2 x2 S2 r2
      have P2 : PoS X.K X.mg C Wx D ρ1 H1 (match lix s t h2 with
        | some x => (fe env h2).fl env fun u h => match g (.val x) u h with
          | some d => match putAt s t (.val d) h with
            | some h' => (.next env h' : Fl)
            | none => .bad
          | none => .bad
        | none => .bad) := P1'
      cases q2 : lix s t h2 with
      | none => rw [q2] at P2; exact P2.elim
      | some d0 =>
        rw [q2] at P2
        unfold lix at q2
        split at q2
        · rename_i ds k eds
          cases (show Rp X.K H2 (Mo C ρ2) y (.int k) from r2)
          obtain ⟨a, vs, ea, sq, ra⟩ := litems_rel S2 (SlV.ex x2 r1) eds
          subst ea
          obtain ⟨z, ez, rz⟩ := atI_rel ra q2
          refine ⟨a, vs, k, z, rfl, rfl, sq, ez, ?_⟩
          refine rd.of S2 (E1.ex x2) ?_
          have P3 : PoS X.K X.mg C Wx D ρ1 H1 ((fe env h2).fl env fun u h => match g (.val d0) u h with
            | some d => match putAt s (.val (.int k)) (.val d) h with
              | some h' => (.next env h' : Fl)
              | none => .bad
            | none => .bad) := P2
          cases q3 : fe env h2 with
          | bad => rw [q3] at P3; exact P3
          | err y h3 => rw [q3] at P3; exact fun ρ' H' cls d s S' q => P3 ρ' σ H' cls d (x2.stp.trans s.stp) S' ((E1.ex x2).ex s) q
          | ok u h3 =>
            rw [q3] at P3
            intro ρ3 w H3 x3 S3 r3
            have P4 : PoS X.K X.mg C Wx D ρ1 H1 (match g (.val d0) u h3 with
              | some d => match putAt s (.val (.int k)) (.val d) h3 with
                | some h' => (.next env h' : Fl)
                | none => .bad
              | none => .bad) := P3
            cases q4 : g (.val d0) u h3 with
            | none => rw [q4] at P4; exact P4.elim
            | some d1 =>
              rw [q4] at P4
              refine ⟨ρ3, h3, .val d0, u, d1, S3, Rp.stp x3.stp rz, r3, q4, fun v1 H4 x4 S4 r4 => ?_⟩
              have P5 : PoS X.K X.mg C Wx D ρ1 H1 (match putAt s (.val (.int k)) (.val d1) h3 with
                | some h' => (.next env h' : Fl)
                | none => .bad) := P4
              cases q5 : putAt s (.val (.int k)) (.val d1) h3 with
              | none => rw [q5] at P5; exact P5.elim
              | some h5 =>
                rw [q5] at P5
                exact put_rel (t := .val (.int k)) (u := .val d1) S4 (SlV.ex ((x2.trans x3).trans x4) r1) (Rp.int k) r4 q5 fun H5 x5 S5 => P5 ρ3 σ H5 (((x2.stp.trans x3.stp).trans x4.stp).trans x5.stp) S5 ((((E1.ex x2).ex x3).ex x4).ex x5)
        · cases q2
end
end FL

namespace FL
open PySem PySem.Spec PyProof.Rows L2

/-! ### list comprehensions -/
def wipeE (env : En) : List Nat → En
  | [] => env
  | v :: vs => (wipeE env vs).set v none
theorem wipeE_length (env : En) : ∀ vs : List Nat, (wipeE env vs).length = env.length
  | [] => rfl
  | v :: vs => by show ((wipeE env vs).set v none).length = _; rw [List.length_set, wipeE_length env vs]
theorem wipeE_get (env : En) (k : Nat) (s : Sl) : ∀ vs : List Nat, (wipeE env vs)[k]? = some (some s) → env[k]? = some (some s) ∧ k ∉ vs
  | [], e => ⟨e, by simp⟩
  | v :: vs, e => by
    have e' : ((wipeE env vs).set v none)[k]? = some (some s) := e
    by_cases h : v = k
    · subst h
      rw [List.getElem?_set, if_pos rfl] at e'
      split at e' <;> cases e'
    · rw [List.getElem?_set_ne h] at e'
      obtain ⟨a, b⟩ := wipeE_get env k s vs e'
      exact ⟨a, fun z => by
        rcases List.mem_cons.mp z with z | z
        · exact h z.symm
        · exact b z⟩
theorem wipe_wipe (σ : St) (vs : List Nat) : wipe (wipe σ vs) vs = wipe σ vs := by
  refine List.ext_getElem? fun k => ?_
  rw [wipe_get, wipe_get]
  by_cases hk : k ∈ vs
  · rw [if_pos hk, if_pos hk]
    cases σ[k]? <;> rfl
  · rw [if_neg hk]
section
variable {K : PySem.W.Frag} {C C' : Fc} {ρ : Fps} {H : Hp} {env : En} {σ : St}
theorem EnvOk.wiped (E : EnvOk K C ρ H env σ) (vs : List Nat) : EnvOk K C ρ H (wipeE env vs) (wipe σ vs) := by
  refine ⟨by rw [wipeE_length, wipe_length]; exact E.len, fun i s e => ?_⟩
  obtain ⟨e1, n⟩ := wipeE_get env i s vs e
  obtain ⟨v, e2, r⟩ := E.at_ i s e1
  exact ⟨v, by rw [wipe_get, if_neg n]; exact e2, r⟩
theorem SlV.cong (hb : C.Bar = C'.Bar) {v : V} {s : Sl} (r : SlV K C ρ H v s) : SlV K C' ρ H v s := by
  have e : Mo C ρ = Mo C' ρ := by unfold Mo; rw [hb]
  cases s with
  | val d =>
    have r' : Rp K H (Mo C ρ) v d := r
    rw [e] at r'
    exact r'
  | loc n => exact r
theorem EnvOk.cong (hb : C.Bar = C'.Bar) (E : EnvOk K C ρ H env σ) : EnvOk K C' ρ H env σ := ⟨E.len, fun i s e => let ⟨v, a, b⟩ := E.at_ i s e; ⟨v, a, SlV.cong hb b⟩⟩
theorem Ex.cong (hb : C.Bar = C'.Bar) {ρ1 : Fps} {H1 : Hp} (x : Ex C ρ H ρ1 H1) : Ex C' ρ H ρ1 H1 := by
  have e : ∀ ρ, Mo C ρ = Mo C' ρ := fun ρ => by unfold Mo; rw [hb]
  refine ⟨?_, x.root⟩
  rw [← e, ← e]
  exact x.stp
end
def tTrue : Tv := fun _ h => .ok true h
abbrev FTs (X : Cx) (C : Fc) (Wx : WX) (ifs : List Expr) (f : Tv) : Prop := PTs X ifs (rd X.K X.mg C Wx relT f)
theorem fts_nil {X : Cx} {C : Fc} {Wx : WX} : FTs X C Wx [] tTrue := ⟨fun pins s σ H Q I ⟨ρ, env, h, S, E, P⟩ => pts_nil.run pins s σ H Q I (P ρ true H (Ex.refl _ _ _) S rfl)⟩
theorem fts_one {X : Cx} {C : Fc} {Wx : WX} {c : Expr} {f : Tv} (h : FT X C Wx c f) : FTs X C Wx [c] f := pts_one h
abbrev W0 : WX := fun _ _ _ _ => False
def compL (t : Tg) (tt : Tv) (fe : Ev) (env : En) : List PyData → List PyData → Hs → Rz (List PyData)
  | [], acc, h => .ok acc h
  | d :: ds, acc, h => match t.put d env with
    | none => .bad
    | some e1 => match tt e1 h with
      | .ok true h => match fe e1 h with
        | .ok (.val x) h => if acc.length < 16777216 then compL t tt fe env ds (acc ++ [x]) h else .bad
        | _ => .bad
      | .ok false h => compL t tt fe env ds acc h
      | _ => .bad
def eComp (src : En → Hs → Rz (List PyData)) (t : Tg) (vs : List Nat) (tt : Tv) (fe : Ev) : Ev := fun env h => (src env h).bind fun ds h => (compL t tt fe (wipeE env vs) ds [] h).bind fun out h => .ok (.val (.list out)) h
/-- .. the list one of the def's own -/
def eCompN (src : En → Hs → Rz (List PyData)) (t : Tg) (vs : List Nat) (tt : Tv) (fe : Ev) : Ev := fun env h => (src env h).bind fun ds h => (compL t tt fe (wipeE env vs) ds [] h).bind fun out h => .ok (.loc h.length) (h ++ [.lst out])
section
variable {K : PySem.W.Frag} {mg : Str → Option Value} {C : Fc} {Wx : WX} {σ : St} {H : Hp}
/-- what stands between two turns of a comprehension -/
structure Mid (K : PySem.W.Frag) (C : Fc) (D : Addr) (ρ1 : Fps) (H1 : Hp) (env : En) (σ : St) (acc : List PyData) (ρ : Fps) (h : Hs) (H : Hp) (av : List V) : Prop where
  S : SimH K (C.plus D) ρ h H
  E : EnvOk K (C.plus D) ρ H env σ
  st : Stp (Mo C ρ1) H1 (Mo (C.plus D) ρ) H
  root : ∀ (n : Nat) (fp : List Addr), ρ1[n]? = some fp → ∃ fp' : List Addr, ρ[n]? = some fp' ∧ fp'.head? = fp.head?
  at_ : H D = some (.lst av)
  all : RpAll K H (Mo (C.plus D) ρ) av acc
theorem Mid.ex {D : Addr} {ρ1 ρ : Fps} {H1 H : Hp} {env : En} {acc : List PyData} {h : Hs} {av : List V} (M : Mid K C D ρ1 H1 env σ acc ρ h H av) : Ex C ρ1 H1 ρ H :=
  ⟨⟨M.st.keep, fun b m => M.st.new b (Mo.unplus m)⟩, M.root⟩
theorem Mid.step {D : Addr} {ρ1 ρ ρ2 : Fps} {H1 H H2 : Hp} {env : En} {acc : List PyData} {h h2 : Hs} {av : List V} (M : Mid K C D ρ1 H1 env σ acc ρ h H av) (S2 : SimH K ((C.plus D).sub ρ H) ρ2 h2 H2) (x : Ex ((C.plus D).sub ρ H) ρ H ρ2 H2) :
    Mid K C D ρ1 H1 env σ acc ρ2 h2 H2 av := by
  have x' : Ex (C.plus D) ρ H ρ2 H2 := Ex.cong (C := (C.plus D).sub ρ H) (C' := C.plus D) rfl x
  refine ⟨M.S.backW S2, M.E.ex x', M.st.trans x'.stp, fun n fp e => ?_, S2.fr D _ M.at_ (M.S.bar D (.inr rfl)).1, M.all.stp x'.stp⟩
  obtain ⟨fp1, e1, q1⟩ := M.root n fp e
  obtain ⟨fp2, e2, q2⟩ := x'.root n fp1 e1
  exact ⟨fp2, e2, q2.trans q1⟩
end
theorem lc_read {K : PySem.W.Frag} {mg : Str → Option Value} {C : Fc} {Wx : WX} {src : En → Hs → Rz (List PyData)} {t : Tg} {vs : List Nat} {tt : Tv} {fe : Ev} {σ : St} {H : Hp} {Q : VK} {g : List PyData → Hs → Rz Sl}
    (hsl : ∀ i ∈ t.slots, i ∈ vs) {rt : TT} {re : TE} (ht : ∀ C' σ H Q, rd K mg C' W0 relT tt σ H Q → rt σ H Q) (he : ∀ C' σ H Q, rd K mg C' W0 (relE K C') fe σ H Q → re σ H Q)
    (fin : ∀ (D : Addr) (ρ1 ρ : Fps) (H1 H : Hp) (env : En) (acc : List PyData) (h : Hs) (av : List V) (σ' : St) h1, SimH K C ρ1 h1 H1 → H1 D = none → Mid K C D ρ1 H1 env σ' acc ρ h H av → Po K mg C Wx σ ρ1 H1 (relE K C) (g acc h) Q → Q (.ref D) H)
    (p : rd K mg C Wx (relE K C) (fun env h => (src env h).bind fun ds h => (compL t tt fe (wipeE env vs) ds [] h).bind g) σ H Q) : tLc (rd K mg C Wx (relI K C) src) (t.rd K) rt re vs σ H Q := by
  refine rd.bind (f := src) (g := fun ds env h => (compL t tt fe (wipeE env vs) ds [] h).bind g) p fun ρ1 env1 h1 ds J H1 S1 E1 G P1 => ?_
  intro D hD
  have M0 : Mid K C D ρ1 H1 (wipeE env1 vs) (wipe σ vs) [] ρ1 h1 (upd H1 D (.lst [])) [] := by
    refine ⟨S1.plus hD, ⟨(E1.wiped vs).len, fun i s e => ?_⟩, Stp.plus hD, fun n fp e => ⟨fp, e, rfl⟩, upd_same, .nil⟩
    obtain ⟨v, e1, r⟩ := (E1.wiped vs).at_ i s e
    refine ⟨v, e1, ?_⟩
    cases s with
    | val d => exact Rp.stp (Stp.plus hD) r
    | loc n => exact r
  refine ⟨fun i m H2 => m = ds.length - i ∧ ∃ ρ2 h2 acc av, Mid K C D ρ1 H1 (wipeE env1 vs) (wipe σ vs) acc ρ2 h2 H2 av ∧ Po K mg C Wx σ ρ1 H1 (relE K C) ((compL t tt fe (wipeE env1 vs) (ds.drop i) acc h2).bind g) Q,
    ⟨ds.length - 0, rfl, ρ1, h1, [], [], M0, P1⟩, fun i m H2 hW => ?_⟩
  · obtain ⟨hm, ρ2, h2, acc, av, M, P2⟩ := hW
    by_cases hi : i < ds.length
    · have ed : ds.drop i = ds[i] :: ds.drop (i + 1) := List.drop_eq_getElem_cons hi
      have ei : ds[i]? = some ds[i] := List.getElem?_eq_getElem hi
      rw [ed] at P2
      refine .inr ⟨G.go _ H2 i _ M.st ei, fun H' => ∃ ρ3 h3 acc av, Mid K C D ρ1 H1 (wipeE env1 vs) (wipe σ vs) acc ρ3 h3 H' av ∧ Po K mg C Wx σ ρ1 H1 (relE K C) ((compL t tt fe (wipeE env1 vs) (ds.drop (i + 1)) acc h3).bind g) Q, fun H' hN => ⟨ds.length - (i + 1), by omega, rfl, hN⟩, fun x H' y => ?_⟩
      obtain ⟨S3, x3, r3⟩ := G.step (C := C.plus D) M.st M.S ei y
      have M3 : Mid K C D ρ1 H1 (wipeE env1 vs) (wipe σ vs) acc ρ2 h2 H' av := by
        have hat : H' D = some (.lst av) := by
          rcases G.yld _ H2 i _ x H' M.st ei y with ⟨rfl, _⟩ | ⟨T, ws, es, hT, rfl, _⟩
          · exact M.at_
          · rw [upd_ne (ne_of_none M.at_ hT)]; exact M.at_
        exact ⟨S3, M.E.ex x3, M.st.trans x3.stp, M.root, hat, M.all.stp x3.stp⟩
      have P3 : Po K mg C Wx σ ρ1 H1 (relE K C) ((match t.put ds[i] (wipeE env1 vs) with
        | none => .bad
        | some e1 => match tt e1 h2 with
          | .ok true h => match fe e1 h with
            | .ok (.val x) h => if acc.length < 16777216 then compL t tt fe (wipeE env1 vs) (ds.drop (i + 1)) (acc ++ [x]) h else .bad
            | _ => .bad
          | .ok false h => compL t tt fe (wipeE env1 vs) (ds.drop (i + 1)) acc h
          | _ => .bad : Rz (List PyData)).bind g) Q := P2
      cases q : t.put ds[i] (wipeE env1 vs) with
      | none => rw [q] at P3; exact P3.elim
      | some e1 =>
        rw [q] at P3
        dsimp only at P3
        refine Tg.ok t x ds[i] (wipe σ vs) (wipeE env1 vs) e1 _ r3 q fun σ3 pt => ⟨by rw [pt.wipe vs hsl, wipe_wipe], ?_⟩
        have E3 : EnvOk K (C.plus D) ρ2 H' e1 σ3 := pt.env (C.plus D) ρ2 rfl M3.E
        refine ht ((C.plus D).sub ρ2 H') σ3 H' _ (rd.of S3.sub (EnvOk.cong (C := C.plus D) (C' := (C.plus D).sub ρ2 H') rfl E3) ?_)
        cases z : tt e1 h2 with
        | bad => rw [z] at P3; exact P3.elim
        | err _ _ => rw [z] at P3; exact P3.elim
        | ok b h4 =>
          rw [z] at P3
          intro ρ4 b' H4 x4 S4 eb
          have eb' : b' = b := eb
          subst eb'
          have M4 := M3.step S4 x4
          have x4' : Ex (C.plus D) ρ2 H' ρ4 H4 := Ex.cong (C := (C.plus D).sub ρ2 H') (C' := C.plus D) rfl x4
          cases b' with
          | false =>
            rw [if_neg Bool.false_ne_true]
            exact ⟨ρ4, h4, acc, av, M4, P3⟩
          | true =>
            rw [if_pos rfl]
            dsimp only at P3
            refine he ((C.plus D).sub ρ4 H4) σ3 H4 _ (rd.of M4.S.sub (EnvOk.cong (C := C.plus D) (C' := (C.plus D).sub ρ4 H4) rfl (E3.ex x4')) ?_)
            cases w : fe e1 h4 with
            | bad => rw [w] at P3; exact P3.elim
            | err _ _ => rw [w] at P3; exact P3.elim
            | ok s5 h5 =>
              rw [w] at P3
              cases s5 with
              | loc n => exact P3.elim
              | val x5 =>
                intro ρ5 y5 H5 x5' S5 r5
                have M5 := M4.step S5 x5'
                have P4 : Po K mg C Wx σ ρ1 H1 (relE K C) ((if acc.length < 16777216 then compL t tt fe (wipeE env1 vs) (ds.drop (i + 1)) (acc ++ [x5]) h5 else .bad : Rz (List PyData)).bind g) Q := P3
                split at P4
                · rename_i hl
                  have bD : (C.plus D).Bar D := .inr rfl
                  have n0 : (C.plus D).H0 D = none := by
                    cases q0 : C.H0 D with
                    | none => exact q0
                    | some o =>
                      by_cases hw : D ∈ C.W.flatten
                      · obtain ⟨o', e'⟩ := S1.wtr D hw
                        rw [hD] at e'; cases e'
                      · have := S1.fr D o q0 hw
                        rw [hD] at this; cases this
                  have r5' : Rp K H5 (Mo (C.plus D) ρ5) y5 x5 := r5
                  have sp := Stp.poke (C := C.plus D) (ρ := ρ5) (H := H5) (o := .lst (av ++ [y5])) bD
                  refine ⟨av, M5.at_, by rw [M5.all.length, sizeLine_eq]; exact hl, ρ5, h5, acc ++ [x5], av ++ [y5], ⟨M5.S.poke bD n0, ?_, M5.st.trans sp, M5.root, upd_same, (M5.all.stp sp).append (.cons (Rp.stp sp r5') .nil)⟩, P4⟩
                  exact M5.E.ex ⟨sp, fun n fp e => ⟨fp, e, rfl⟩⟩
                · exact P4.elim
    · have ed : ds.drop i = [] := List.drop_eq_nil_of_le (by omega)
      rw [ed] at P2
      exact .inl ⟨G.stop _ H2 i M.st (by omega), fin D ρ1 ρ2 H1 H2 _ acc h2 av _ h1 S1 hD M P2⟩
section
variable {X : Cx} {C : Fc} {Wx : WX} {elt tg iter : Expr} {ifs : List Expr} {scope : Scope} {own : List (Str × Nat)} {pos : Pos} {src : En → Hs → Rz (List PyData)} {t : Tg} {tt : Tv} {fe : Ev}
theorem lc_val {K : PySem.W.Frag} {mg : Str → Option Value} {σ : St} {Q : VK} (D : Addr) (ρ1 ρ : Fps) (H1 H : Hp) (env : En) (acc : List PyData) (h : Hs) (av : List V) (σ' : St) (h1 : Hs) (S1 : SimH K C ρ1 h1 H1) (hD : H1 D = none) (M : Mid K C D ρ1 H1 env σ' acc ρ h H av)
    (P : Po K mg C Wx σ ρ1 H1 (relE K C) (.ok (.val (.list acc)) h) Q) : Q (.ref D) H := by
  have nb : ¬ C.Bar D := fun b => by
    obtain ⟨_, o, e⟩ := S1.bar D b
    rw [hD] at e; cases e
  refine P ρ (.ref D) H M.ex M.S.unplus (.lst (.inl ⟨.inl M.at_, fun m => ?_⟩) (M.all.fewer fun _ => Mo.unplus))
  rcases m with m | m
  · exact (M.S.bar D (.inr rfl)).1 m
  · exact nb m
theorem lc_loc {K : PySem.W.Frag} {mg : Str → Option Value} {σ : St} {Q : VK} (D : Addr) (ρ1 ρ : Fps) (H1 H : Hp) (env : En) (acc : List PyData) (h : Hs) (av : List V) (σ' : St) (h1 : Hs) (S1 : SimH K C ρ1 h1 H1) (hD : H1 D = none) (M : Mid K C D ρ1 H1 env σ' acc ρ h H av)
    (P : Po K mg C Wx σ ρ1 H1 (relE K C) (.ok (.loc h.length) (h ++ [.lst acc])) Q) : Q (.ref D) H := by
  have nb : ¬ C.Bar D := fun b => by
    obtain ⟨_, o, e⟩ := S1.bar D b
    rw [hD] at e; cases e
  have n0 : C.H0 D = none := by
    cases q0 : C.H0 D with
    | none => rfl
    | some o =>
      by_cases hw : D ∈ C.W.flatten
      · obtain ⟨o', e'⟩ := S1.wtr D hw
        rw [hD] at e'; cases e'
      · have := S1.fr D o q0 hw
        rw [hD] at this; cases this
  have S := M.S.adopt (ob := .lst acc) n0 nb ⟨D, av, rfl, M.at_, M.all⟩
  refine P (ρ ++ [[D]]) (.ref D) H ⟨⟨M.st.keep, fun b m => M.st.new b (Mo.adopt.mp m)⟩, fun n fp e => ?_⟩ S ?_
  · obtain ⟨fp', e', q⟩ := M.root n fp e
    exact ⟨fp', by rw [List.getElem?_append_left (List.getElem?_eq_some_iff.mp e').1]; exact e', q⟩
  · rw [← M.S.len]
    exact SlV.pushed _
theorem fe_comp (hc : X.calm = true) (hN : X.N.Nodup) (hi : FI X C Wx tg iter src) (ok : BlkOk X.N X.env.scope scope own)
    (hg : ∀ (s : Shared) (H : Hp) (Cc : Addr) (cl : List (Str × Addr)) (fp : List Addr), FG (X.blk s H scope (compEnvC scope cl Cc X.env) fp) tg t)
    (ht : ∀ (C' : Fc) (s : Shared) (H : Hp) (Cc : Addr) (cl : List (Str × Addr)) (fp : List Addr), FTs (X.blk s H scope (compEnvC scope cl Cc X.env) fp) C' W0 ifs tt)
    (he : ∀ (C' : Fc) (s : Shared) (H : Hp) (Cc : Addr) (cl : List (Str × Addr)) (fp : List Addr), FE (X.blk s H scope (compEnvC scope cl Cc X.env) fp) C' W0 elt fe)
    (hsl : ∀ i ∈ t.slots, i ∈ own.map (·.2) := by decide) (hs : ∀ x, foldedSetIterable iter X.env x = pure x := by intro _; rfl) :
    FE X C Wx (.ListComp elt [⟨tg, iter, ifs, 0⟩] scope pos) (eComp src t (own.map (·.2)) tt fe) :=
  PE.imp (pe_lc (tt := fun σ H Q => ∃ C', rd X.K X.mg C' W0 relT tt σ H Q) (te := fun σ H Q => ∃ C', rd X.K X.mg C' W0 (relE X.K C') fe σ H Q) hc hN hi ok hg
    (fun s H Cc cl fp => ⟨fun pins s' σ H Q I ⟨C', q⟩ => (ht C' s _ Cc cl fp).run pins s' σ H Q I q⟩) (fun s H Cc cl fp => ⟨fun pins s' σ H Q I ⟨C', q⟩ => (he C' s _ Cc cl fp).run pins s' σ H Q I q⟩) hs) fun σ H Q p =>
    lc_read (g := fun out h => .ok (.val (.list out)) h) hsl (fun C' _ _ _ q => ⟨C', q⟩) (fun C' _ _ _ q => ⟨C', q⟩) lc_val p
theorem fe_compN (hc : X.calm = true) (hN : X.N.Nodup) (hi : FI X C Wx tg iter src) (ok : BlkOk X.N X.env.scope scope own)
    (hg : ∀ (s : Shared) (H : Hp) (Cc : Addr) (cl : List (Str × Addr)) (fp : List Addr), FG (X.blk s H scope (compEnvC scope cl Cc X.env) fp) tg t)
    (ht : ∀ (C' : Fc) (s : Shared) (H : Hp) (Cc : Addr) (cl : List (Str × Addr)) (fp : List Addr), FTs (X.blk s H scope (compEnvC scope cl Cc X.env) fp) C' W0 ifs tt)
    (he : ∀ (C' : Fc) (s : Shared) (H : Hp) (Cc : Addr) (cl : List (Str × Addr)) (fp : List Addr), FE (X.blk s H scope (compEnvC scope cl Cc X.env) fp) C' W0 elt fe)
    (hsl : ∀ i ∈ t.slots, i ∈ own.map (·.2) := by decide) (hs : ∀ x, foldedSetIterable iter X.env x = pure x := by intro _; rfl) :
    FE X C Wx (.ListComp elt [⟨tg, iter, ifs, 0⟩] scope pos) (eCompN src t (own.map (·.2)) tt fe) :=
  PE.imp (pe_lc (tt := fun σ H Q => ∃ C', rd X.K X.mg C' W0 relT tt σ H Q) (te := fun σ H Q => ∃ C', rd X.K X.mg C' W0 (relE X.K C') fe σ H Q) hc hN hi ok hg
    (fun s H Cc cl fp => ⟨fun pins s' σ H Q I ⟨C', q⟩ => (ht C' s _ Cc cl fp).run pins s' σ H Q I q⟩) (fun s H Cc cl fp => ⟨fun pins s' σ H Q I ⟨C', q⟩ => (he C' s _ Cc cl fp).run pins s' σ H Q I q⟩) hs) fun σ H Q p =>
    lc_read (g := fun out h => .ok (.loc h.length) (h ++ [Ob.lst out])) hsl (fun C' _ _ _ q => ⟨C', q⟩) (fun C' _ _ _ q => ⟨C', q⟩) lc_loc p
/-- y = [..], a statement of its own -/
theorem fs_setLc {i : Nat} {y : Str} {py spos : Pos} (hc : X.calm = true) (hN : X.N.Nodup) (hy : X.N[i]? = some y) (hyl : X.env.scope.names.lookup y = some .local)
    (hsw : swapsWith (.ListComp elt [⟨tg, iter, ifs, 0⟩] scope pos) (some (.Name y py)) spos.line X.env = pure true) (hi : FI X C Wx tg iter src) (ok : BlkOk X.N X.env.scope scope own)
    (hg : ∀ (s : Shared) (H : Hp) (Cc : Addr) (cl : List (Str × Addr)) (fp : List Addr), FG (X.blk s H scope (compEnvC scope cl Cc X.env) fp) tg t)
    (ht : ∀ (C' : Fc) (s : Shared) (H : Hp) (Cc : Addr) (cl : List (Str × Addr)) (fp : List Addr), FTs (X.blk s H scope (compEnvC scope cl Cc X.env) fp) C' W0 ifs tt)
    (he : ∀ (C' : Fc) (s : Shared) (H : Hp) (Cc : Addr) (cl : List (Str × Addr)) (fp : List Addr), FE (X.blk s H scope (compEnvC scope cl Cc X.env) fp) C' W0 elt fe)
    (hsl : ∀ i ∈ t.slots, i ∈ own.map (·.2) := by decide) (hs : ∀ x, foldedSetIterable iter X.env x = pure x := by intro _; rfl) :
    FS X C Wx (.Assign [.Name y py] (.ListComp elt [⟨tg, iter, ifs, 0⟩] scope pos) spos) (sSet i (eComp src t (own.map (·.2)) tt fe)) :=
  PS.imp (ps_setLc (tt := fun σ H Q => ∃ C', rd X.K X.mg C' W0 relT tt σ H Q) (te := fun σ H Q => ∃ C', rd X.K X.mg C' W0 (relE X.K C') fe σ H Q) hc hN hy hyl hsw hi ok hg
    (fun s H Cc cl fp => ⟨fun pins s' σ H Q I ⟨C', q⟩ => (ht C' s _ Cc cl fp).run pins s' σ H Q I q⟩) (fun s H Cc cl fp => ⟨fun pins s' σ H Q I ⟨C', q⟩ => (he C' s _ Cc cl fp).run pins s' σ H Q I q⟩) hs) fun D σ H p =>
    lc_read (g := fun out h => .ok (.val (.list out)) h) hsl (fun C' _ _ _ q => ⟨C', q⟩) (fun C' _ _ _ q => ⟨C', q⟩) lc_val
      (rdS.bind (r1 := relE X.K C) (R := fun x H1 => gName i x σ H1 D.nx) (f := eComp src t (own.map (·.2)) tt fe) (g := fun s env h => .next (env.set i (some s)) h) p fun ρ1 env h1 a b H1 S1 E1 r1 P1 => P1 ρ1 _ H1 (Stp.refl _ _) S1 (E1.set r1 i))
theorem fs_setLcN {i : Nat} {y : Str} {py spos : Pos} (hc : X.calm = true) (hN : X.N.Nodup) (hy : X.N[i]? = some y) (hyl : X.env.scope.names.lookup y = some .local)
    (hsw : swapsWith (.ListComp elt [⟨tg, iter, ifs, 0⟩] scope pos) (some (.Name y py)) spos.line X.env = pure true) (hi : FI X C Wx tg iter src) (ok : BlkOk X.N X.env.scope scope own)
    (hg : ∀ (s : Shared) (H : Hp) (Cc : Addr) (cl : List (Str × Addr)) (fp : List Addr), FG (X.blk s H scope (compEnvC scope cl Cc X.env) fp) tg t)
    (ht : ∀ (C' : Fc) (s : Shared) (H : Hp) (Cc : Addr) (cl : List (Str × Addr)) (fp : List Addr), FTs (X.blk s H scope (compEnvC scope cl Cc X.env) fp) C' W0 ifs tt)
    (he : ∀ (C' : Fc) (s : Shared) (H : Hp) (Cc : Addr) (cl : List (Str × Addr)) (fp : List Addr), FE (X.blk s H scope (compEnvC scope cl Cc X.env) fp) C' W0 elt fe)
    (hsl : ∀ i ∈ t.slots, i ∈ own.map (·.2) := by decide) (hs : ∀ x, foldedSetIterable iter X.env x = pure x := by intro _; rfl) :
    FS X C Wx (.Assign [.Name y py] (.ListComp elt [⟨tg, iter, ifs, 0⟩] scope pos) spos) (sSet i (eCompN src t (own.map (·.2)) tt fe)) :=
  PS.imp (ps_setLc (tt := fun σ H Q => ∃ C', rd X.K X.mg C' W0 relT tt σ H Q) (te := fun σ H Q => ∃ C', rd X.K X.mg C' W0 (relE X.K C') fe σ H Q) hc hN hy hyl hsw hi ok hg
    (fun s H Cc cl fp => ⟨fun pins s' σ H Q I ⟨C', q⟩ => (ht C' s _ Cc cl fp).run pins s' σ H Q I q⟩) (fun s H Cc cl fp => ⟨fun pins s' σ H Q I ⟨C', q⟩ => (he C' s _ Cc cl fp).run pins s' σ H Q I q⟩) hs) fun D σ H p =>
    lc_read (g := fun out h => .ok (.loc h.length) (h ++ [Ob.lst out])) hsl (fun C' _ _ _ q => ⟨C', q⟩) (fun C' _ _ _ q => ⟨C', q⟩) lc_loc
      (rdS.bind (r1 := relE X.K C) (R := fun x H1 => gName i x σ H1 D.nx) (f := eCompN src t (own.map (·.2)) tt fe) (g := fun s env h => .next (env.set i (some s)) h) p fun ρ1 env h1 a b H1 S1 E1 r1 P1 => P1 ρ1 _ H1 (Stp.refl _ _) S1 (E1.set r1 i))
end
end FL

namespace FL
open PySem PySem.Spec PyProof.Rows L2

/-! ### defs -/
/-- the arguments of a call: data, and objects that may be changed -/
inductive ArgsOk (K : PySem.W.Frag) (H : Hp) (M : Ms) : List Bool → List V → List PyData → Hs → List Addr → Prop
  | nil : ArgsOk K H M [] [] [] [] []
  | val {io : List Bool} {v : V} {vs : List V} {d : PyData} {ds : List PyData} {os : Hs} {ad : List Addr} : Rp K H M v d → ArgsOk K H M io vs ds os ad → ArgsOk K H M (false :: io) (v :: vs) (d :: ds) os ad
  | obj {io : List Bool} {a : Addr} {vs : List V} {o : Ob} {ds : List PyData} {os : Hs} {ad : List Addr} : ObOk K H M [a] o → ArgsOk K H M io vs ds os ad → ArgsOk K H M (true :: io) (.ref a :: vs) ds (o :: os) (a :: ad)
def OsOk (K : PySem.W.Frag) (H : Hp) (M : Ms) (ad : List Addr) (os : Hs) : Prop := ad.length = os.length ∧ ∀ (n : Nat) (a : Addr) (o : Ob), ad[n]? = some a → os[n]? = some o → ObOk K H M [a] o
mutual
/-- no list in it -/
def noL : PyData → Bool
  | .list _ => false
  | .dict _ => false
  | .tuple ds => noLs ds
  | .none => true
  | .bool _ => true
  | .int _ => true
  | .str _ => true
def noLs : List PyData → Bool
  | [] => true
  | d :: ds => noL d && noLs ds
end
abbrev Fm := List PyData → Hs → Rz PyData
def Ma (ad : List Addr) (Bar : Ms) : Ms := fun a => a ∈ ad ∨ Bar a
/-- what is new, if it is a list -/
def FrOk (K : PySem.W.Frag) (H H' : Hp) (M : Ms) (v : V) (d : PyData) : Prop :=
  noL d = true ∨ ∃ a vs ds, v = .ref a ∧ d = .list ds ∧ H a = none ∧ H' a = some (.lst vs) ∧ RpAll K H' M vs ds ∧ noLs ds = true
/-- the promise that a mirror tells -/
def spOf (K : PySem.W.Frag) (mg : Str → Option Value) (fr : Bool) (io : List Bool) (m : Fm) : Sp := fun vs H Q E =>
  ∃ (ad : List Addr) (Bar : Ms) (ds : List PyData) (os : Hs), ArgsOk K H (Ma ad Bar) io vs ds os ad ∧ ad.Nodup ∧ (∀ b, Bar b → b ∉ ad ∧ ∃ o, H b = some o) ∧ match m ds os with
    | .ok d os' => ∀ v H', (∀ b o, H b = some o → b ∉ ad → H' b = some o) → OsOk K H' (Ma ad Bar) ad os' → Rp K H' (Ma ad Bar) v d → (fr = true → FrOk K H H' (Ma ad Bar) v d) → Q v H'
    | .err x os' => ∀ H' cls d, (∀ b o, H b = some o → b ∉ ad → H' b = some o) → OsOk K H' (Ma ad Bar) ad os' → XnOk K mg H' (Ma ad Bar) x cls d → E cls d H'
    | .bad => False
/-- a def's promise, where no repr is under way -/
structure FnG (P : Program) (w : World) (K : PySem.W.Frag) (mg : Str → Option Value) (base : Heap) (X : CXT) (k : Nat) (f : Addr) (fd : FuncData) (ps : List Str) (sp : Sp) : Prop where
  len : ∀ vs H Q E, sp vs H Q E → vs.length = ps.length
  run : ∀ (A : Around) (outer : List Env) (s : Shared) (H : Hp) (args : Args) (us : List Value) (vs : List V) (Q : VK) (E : XK), A.guards = some [] → Room k A → Env0 P w K mg base A outer s H → BindsTo s fd args (ps.zip us) → Vals vs us → sp vs H Q E →
    codeAny (model P w) A (.call (.ref f) args) (CR X outer P w H s Q E) s
theorem FnG.mono {P : Program} {w : World} {K : PySem.W.Frag} {mg : Str → Option Value} {base : Heap} {X : CXT} {j k : Nat} {f : Addr} {fd : FuncData} {ps : List Str} {sp : Sp} (F : FnG P w K mg base X j f fd ps sp) (h : j ≤ k) : FnG P w K mg base X k f fd ps sp :=
  ⟨F.len, fun A outer s H args us vs Q E hg hr => F.run A outer s H args us vs Q E hg (hr.mono h)⟩
theorem guards_deeper (A : Around) (e : Env) : (A.deeper e).guards = A.guards := rfl
section
variable {P : Program} {w : World} {K : PySem.W.Frag} {mg : Str → Option Value} {base : Heap}
/-- a def by its body -/
theorem fnG_of {X : CXT} {x qual : Str} {st : Stmt} {f : Addr} {fd : FuncData} {N ps : List Str} {k : Nat} {sp : Sp} (F : Fun K x qual st f fd) (S : FnScope N ps (defScope st)) (len : ∀ vs H Q E, sp vs H Q E → vs.length = ps.length)
    (hb : ∀ (cdv : Value) (A : Around) (outer : List Env) (s : Shared) (H : Hp) (vs : List V) (Q : VK) (E : XK), A.guards = some [] → Room k (A.deeper (envOfC qual (defScope st) s.heap.objs.size f cdv)) → sp vs H Q E →
      ∃ t, PSs (cxOf X P w K mg base N qual (defScope st) f cdv A outer s H E) (defBody st) t ∧ t { nx := fun _ H' => Q .non H', rt := Q } (start N vs) H) : FnG P w K mg base X (k + 1) f fd ps sp := by
  obtain ⟨oc, od, kV, doc, pm, an, cdv, ct, osl, rfl, lk, hcd⟩ := F.ex
  constructor
  · exact len
  intro A outer s H args us vs Q E hg hr e0 hbn r hsp
  have up : ∀ b o, base.get? b = some o → s.heap.get? b = some o := fun b o e => (e0.bs b o e).1
  have kinds : ∀ y ∈ ps.zip us, (defScope st).names.lookup y.1 = some .local ∨ ((defScope st).names.lookup y.1 = some .cell ∧ ((cellsFrom (s.heap.objs.size + 1) (defScope st).names []).lookup y.1).isSome = true) := by
    rintro ⟨n, v⟩ hy
    have hn := S.par n (List.of_mem_zip hy).1
    exact hn.imp id fun q => ⟨q, PySem.W.cellsFrom_some _ _ _ (.inl q)⟩
  have kin : K.In s.heap := e0.mod.kin.keeps up
  refine codeAny_call_function hr.depth (kin _ _ lk) rfl S.co S.gen rfl (PySem.W.codeRec_of kin hcd) (hbn _ _ _ _ (wpAny_newFunctionEnv_cells S.kind kinds ?_))
  intro env he s1 x1
  subst he
  obtain ⟨t, ht, hq⟩ := hb cdv A outer s H vs Q E hg (hr.deeper _) hsp
  refine ⟨(e0.mod.nolimit.keeps up).keeps x1.toInCall.keep, codeAny_func (wpAny_mono (ht.run [] s1 (start N vs) H _ (inv_start S hr.hd e0 (len _ _ _ _ hsp) r x1) hq) ?_ fun e s' hs => hs)⟩
  intro fl s' hs
  match fl, hs with
  | .ret u, hs => obtain ⟨v, _, H', J, rv, q⟩ := hs; exact ⟨v, H', J.os, J.bare, J.base, J.hok, rv, q⟩
  | .next, hs => obtain ⟨_, H', J, q⟩ := hs; exact ⟨V.non, H', J.os, J.bare, J.base, J.hok, rfl, q⟩
  | .brk, hs => obtain ⟨_, _, _, q⟩ := hs; exact False.elim q
  | .cont, hs => obtain ⟨_, _, _, q⟩ := hs; exact False.elim q
end
/-! ### the mirror of a def, by its body's -/
def mkEnv : List Bool → List PyData → Nat → En
  | false :: io, d :: ds, k => some (.val d) :: mkEnv io ds k
  | true :: io, ds, k => some (.loc k) :: mkEnv io ds (k + 1)
  | _, _, _ => []
def outD (fr : Bool) (k : Nat) (s : Sl) (h : Hs) : Rz PyData := match s with
  | .val d => if fr = true ∧ noL d = false then .bad else .ok d (h.take k)
  | .loc n => if k ≤ n then (match h[n]? with
    | some (.lst ds) => if fr = true ∧ noLs ds = false then .bad else .ok (.list ds) (h.take k)
    | _ => .bad) else .bad
def runFn (fr : Bool) (io : List Bool) (nl : Nat) (fb : Sv) : Fm := fun ds os => match fb (mkEnv io ds 0 ++ List.replicate nl none) os with
  | .next _ h => .ok .none (h.take os.length)
  | .ret s h => outD fr os.length s h
  | .err x _ h => .err x (h.take os.length)
  | _ => .bad
section
variable {K : PySem.W.Frag} {H : Hp} {M : Ms}
theorem ArgsOk.lens : ∀ {io : List Bool} {vs : List V} {ds : List PyData} {os : Hs} {ad : List Addr}, ArgsOk K H M io vs ds os ad → vs.length = io.length ∧ ad.length = os.length
  | _, _, _, _, _, .nil => ⟨rfl, rfl⟩
  | _, _, _, _, _, .val _ t => ⟨congrArg (· + 1) t.lens.1, t.lens.2⟩
  | _, _, _, _, _, .obj _ t => ⟨congrArg (· + 1) t.lens.1, congrArg (· + 1) t.lens.2⟩
theorem ArgsOk.objs : ∀ {io : List Bool} {vs : List V} {ds : List PyData} {os : Hs} {ad : List Addr}, ArgsOk K H M io vs ds os ad → ∀ (n : Nat) (a : Addr) (o : Ob), ad[n]? = some a → os[n]? = some o → ObOk K H M [a] o
  | _, _, _, _, _, .nil, _, _, _, e, _ => by simp at e
  | _, _, _, _, _, .val _ t, n, a, o, e, e' => t.objs n a o e e'
  | _, _, _, _, _, .obj x t, 0, a, o, e, e' => by
    simp at e e'
    subst e; subst e'
    exact x
  | _, _, _, _, _, .obj x t, n + 1, a, o, e, e' => t.objs n a o (by simpa using e) (by simpa using e')
theorem ObOk.trk {fp : List Addr} {o : Ob} (x : ObOk K H M fp o) : ∀ a ∈ fp, ∃ u, H a = some u := by
  cases o with
  | lst ds =>
    obtain ⟨a, vs, rfl, e, _⟩ := x
    intro b hb
    have : b = a := by simpa using hb
    subst this
    exact ⟨_, e⟩
  | dic kvs =>
    obtain ⟨a, vs, rfl, e, _⟩ := x
    intro b hb
    have : b = a := by simpa using hb
    subst this
    exact ⟨_, e⟩
theorem flatten_ones (ad : List Addr) : (ad.map fun a => [a]).flatten = ad := by
  induction ad with
  | nil => rfl
  | cons a r ih => rw [List.map_cons, List.flatten_cons, ih]; rfl
/-- a def's beginning -/
theorem simH_start {Bar : Ms} {io : List Bool} {vs : List V} {ds : List PyData} {os : Hs} {ad : List Addr} (a : ArgsOk K H (Ma ad Bar) io vs ds os ad) (nd : ad.Nodup) (nb : ∀ b, Bar b → b ∉ ad ∧ ∃ o, H b = some o) :
    SimH K ⟨H, ad.map fun a => [a], Bar⟩ (ad.map fun a => [a]) os H := by
  have eM : Mo ⟨H, ad.map fun a => [a], Bar⟩ (ad.map fun a => [a]) = Ma ad Bar := by
    funext b
    unfold Mo Ma
    rw [flatten_ones]
  have trk : ∀ b ∈ ad, ∃ o, H b = some o := fun b hb => by
    obtain ⟨n, hn, e⟩ := List.getElem_of_mem hb
    have hl := a.lens.2
    have h2 : n < os.length := by omega
    exact (a.objs n b os[n] (by rw [← e]; exact List.getElem?_eq_getElem hn) (List.getElem?_eq_getElem h2)).trk b (by simp)
  refine ⟨by rw [List.length_map]; exact a.lens.2, by rw [flatten_ones]; exact nd, fun b hb => trk b (by rw [flatten_ones] at hb; exact hb), fun n fp o e1 e2 => ?_, fun _ _ e _ => e, fun b hb => .inl hb, fun b hb => ?_, fun b hb => trk b ?_, fun n fp e => ⟨fp, e, rfl⟩⟩
  · rw [eM]
    rw [List.getElem?_map] at e1
    cases q : ad[n]? with
    | none => rw [q] at e1; cases e1
    | some b =>
      rw [q] at e1
      cases e1
      exact a.objs n b o q e2
  · rw [flatten_ones]
    exact nb b hb
  · rw [← flatten_ones ad]; exact hb
theorem envOk_args {C : Fc} {ρ : Fps} (hM : ∀ v d, Rp K H M v d → Rp K H (Mo C ρ) v d) : ∀ {io : List Bool} {vs : List V} {ds : List PyData} {os : Hs} {ad : List Addr} {k : Nat}, ArgsOk K H M io vs ds os ad → (∀ (n : Nat) (a : Addr), ad[n]? = some a → ρ[k + n]? = some [a]) →
    (mkEnv io ds k).length = vs.length ∧ ∀ (i : Nat) (s : Sl), (mkEnv io ds k)[i]? = some (some s) → ∃ v, vs[i]? = some v ∧ SlV K C ρ H v s
  | _, _, _, _, _, k, .nil, _ => ⟨rfl, fun i s e => by simp [mkEnv] at e⟩
  | _, _, _, _, _, k, .val r t, hρ => by
    obtain ⟨l, g⟩ := envOk_args hM (k := k) t hρ
    refine ⟨congrArg (· + 1) l, fun i s e => ?_⟩
    cases i with
    | zero =>
      simp [mkEnv] at e
      subst e
      exact ⟨_, rfl, hM _ _ r⟩
    | succ i =>
      obtain ⟨v, e1, r1⟩ := g i s (by simpa [mkEnv] using e)
      exact ⟨v, by simpa using e1, r1⟩
  | _, _, _, _, _, k, .obj (a := a) x t, hρ => by
    obtain ⟨l, g⟩ := envOk_args hM (k := k + 1) t fun n b e => by
      have := hρ (n + 1) b (by simpa using e)
      rw [show k + 1 + n = k + (n + 1) by omega]
      exact this
    refine ⟨congrArg (· + 1) l, fun i s e => ?_⟩
    cases i with
    | zero =>
      have e' : Sl.loc k = s := by simpa [mkEnv] using e
      subst e'
      exact ⟨_, rfl, [a], a, hρ 0 a rfl, rfl, rfl⟩
    | succ i =>
      obtain ⟨v, e1, r1⟩ := g i s (by simpa [mkEnv] using e)
      exact ⟨v, by simpa using e1, r1⟩
theorem envOk_start {C : Fc} {ρ : Fps} {Bar : Ms} {io : List Bool} {vs : List V} {ds : List PyData} {os : Hs} {ad : List Addr} {N : List Str} (a : ArgsOk K H M io vs ds os ad) (hM : ∀ v d, Rp K H M v d → Rp K H (Mo C ρ) v d) (hρ : ρ = ad.map fun a => [a]) :
    EnvOk K C ρ H (mkEnv io ds 0 ++ List.replicate (N.length - io.length) none) (L2.start N vs) := by
  obtain ⟨l, g⟩ := envOk_args (k := 0) hM a fun n b e => by
    rw [hρ, List.getElem?_map, Nat.zero_add, e]; rfl
  have hv := a.lens.1
  unfold L2.start
  refine ⟨by rw [List.length_append, List.length_append, List.length_replicate, List.length_replicate, List.length_map, l, hv], fun i s e => ?_⟩
  by_cases hi : i < (mkEnv io ds 0).length
  · rw [List.getElem?_append_left hi] at e
    obtain ⟨v, e1, r⟩ := g i s e
    refine ⟨v, ?_, r⟩
    rw [List.getElem?_append_left (by rw [List.length_map]; omega), List.getElem?_map, e1]; rfl
  · rw [List.getElem?_append_right (by omega), List.getElem?_replicate] at e
    split at e <;> cases e
end
def Wq (E : XK) : WX := fun cls d _ H => E cls d H
theorem oof_end {K : PySem.W.Frag} {H H' : Hp} {Bar : Ms} {ad : List Addr} {ρ : Fps} {h : Hs} (S : SimH K ⟨H, ad.map fun a => [a], Bar⟩ ρ h H') : (∀ b, Ma ad Bar b → Mo ⟨H, ad.map fun a => [a], Bar⟩ ρ b) ∧ OsOk K H' (Ma ad Bar) ad (h.take ad.length) := by
  have root : ∀ (n : Nat) (a : Addr), ad[n]? = some a → ∃ fp : List Addr, ρ[n]? = some fp ∧ fp.head? = some a := fun n a e => by
    obtain ⟨fp, e1, q⟩ := S.pre n [a] (by show (ad.map fun a => [a])[n]? = _; rw [List.getElem?_map, e]; rfl)
    exact ⟨fp, e1, q⟩
  have sub : ∀ b, Ma ad Bar b → Mo ⟨H, ad.map fun a => [a], Bar⟩ ρ b := fun b m => by
    rcases m with m | m
    · obtain ⟨n, hn, e⟩ := List.getElem_of_mem m
      obtain ⟨fp, e1, q⟩ := root n b (by rw [← e]; exact List.getElem?_eq_getElem hn)
      refine .inl (flat_at e1 ?_)
      cases fp with
      | nil => cases q
      | cons c r => cases q; simp
    · exact .inr m
  have wl := S.wlen
  have wl' : ad.length ≤ h.length := by
    have : (ad.map fun a => [a]).length ≤ h.length := wl
    rw [List.length_map] at this
    exact this
  refine ⟨sub, by rw [List.length_take]; omega, fun n a o e1 e2 => ?_⟩
  obtain ⟨fp, e3, q⟩ := root n a e1
  have x := S.obj n fp o e3 (get_take e2)
  have fe : fp = [a] := by
    cases o with
    | lst ds =>
      obtain ⟨b, _, rfl, _⟩ := x
      cases q; rfl
    | dic kvs =>
      obtain ⟨b, _, rfl, _⟩ := x
      cases q; rfl
  subst fe
  exact ObOk.fewer sub x
/-- a def keeps what its mirror tells -/
theorem fnD {P : Program} {w : World} {K : PySem.W.Frag} {mg : Str → Option Value} {base : Heap} {x qual : Str} {st : Stmt} {f : Addr} {fd : FuncData} {N ps : List Str} {k : Nat} (fr : Bool) (io : List Bool) {fb : Sv} (F : Fun K x qual st f fd) (S : FnScope N ps (defScope st)) (hio : io.length = ps.length)
    (hb : ∀ (cdv : Value) (A : Around) (outer : List Env) (s : Shared) (H : Hp) (E : XK) (C : Fc), A.guards = some [] → Room k (A.deeper (envOfC qual (defScope st) s.heap.objs.size f cdv)) → FSs (cxOf (L2.CX P w) P w K mg base N qual (defScope st) f cdv A outer s H E) C (Wq E) (defBody st) fb) :
    FnG P w K mg base (L2.CX P w) (k + 1) f fd ps (spOf K mg fr io (runFn fr io (N.length - io.length) fb)) := by
  refine fnG_of F S (fun vs H Q E ⟨ad, Bar, ds, os, a, _⟩ => by rw [a.lens.1, hio]) fun cdv A outer s H vs Q E hg hr hsp => ?_
  obtain ⟨ad, Bar, ds, os, a, nd, nb, P0⟩ := hsp
  refine ⟨_, hb cdv A outer s H E ⟨H, ad.map fun a => [a], Bar⟩ hg hr, ad.map fun a => [a], mkEnv io ds 0 ++ List.replicate (N.length - io.length) none, os, simH_start a nd nb, envOk_start (Bar := Bar) a (fun v d r => Rp.fewer (fun b m => ?_) r) rfl, ?_⟩
  · unfold Mo at m
    rw [flatten_ones] at m
    exact m
  have hlen := a.lens.2
  have P1 : match (match fb (mkEnv io ds 0 ++ List.replicate (N.length - io.length) none) os with
    | .next _ h => (.ok .none (h.take os.length) : Rz PyData)
    | .ret s h => outD fr os.length s h
    | .err x _ h => .err x (h.take os.length)
    | _ => .bad) with
    | .ok d os' => ∀ v H', (∀ b o, H b = some o → b ∉ ad → H' b = some o) → OsOk K H' (Ma ad Bar) ad os' → Rp K H' (Ma ad Bar) v d → (fr = true → FrOk K H H' (Ma ad Bar) v d) → Q v H'
    | .err x os' => ∀ H' cls d, (∀ b o, H b = some o → b ∉ ad → H' b = some o) → OsOk K H' (Ma ad Bar) ad os' → XnOk K mg H' (Ma ad Bar) x cls d → E cls d H'
    | .bad => False := P0
  have frame : ∀ {ρ : Fps} {h : Hs} {H' : Hp}, SimH K ⟨H, ad.map fun a => [a], Bar⟩ ρ h H' → ∀ b o, H b = some o → b ∉ ad → H' b = some o := fun S' b o e n => S'.fr b o e (by
    show b ∉ (ad.map fun a => [a]).flatten
    rw [flatten_ones]; exact n)
  cases q : fb (mkEnv io ds 0 ++ List.replicate (N.length - io.length) none) os with
  | next e h =>
    rw [q] at P1
    intro ρ' σ' H' st' S' E'
    obtain ⟨sub, oo⟩ := oof_end S'
    rw [hlen] at oo
    exact P1 .non H' (frame S') oo .non fun _ => .inl rfl
  | err y e h =>
    rw [q] at P1
    intro ρ' σ' H' cls d st' S' E' xn
    obtain ⟨sub, oo⟩ := oof_end S'
    rw [hlen] at oo
    refine P1 H' cls d (frame S') oo ⟨xn.1, xn.2.imp id fun ⟨da, ws, h1, h2, h3, h4⟩ => ⟨da, ws, h1, h2, h3, h4.fewer sub⟩⟩
  | brk _ _ => rw [q] at P1; exact P1.elim
  | cont _ _ => rw [q] at P1; exact P1.elim
  | bad => rw [q] at P1; exact P1.elim
  | ret s h =>
    rw [q] at P1
    intro ρ' v H' st' S' r
    obtain ⟨sub, oo⟩ := oof_end S'
    rw [hlen] at oo
    cases s with
    | val d =>
      have P2 : match (if fr = true ∧ noL d = false then .bad else .ok d (h.take os.length) : Rz PyData) with
        | .ok d os' => ∀ v H', (∀ b o, H b = some o → b ∉ ad → H' b = some o) → OsOk K H' (Ma ad Bar) ad os' → Rp K H' (Ma ad Bar) v d → (fr = true → FrOk K H H' (Ma ad Bar) v d) → Q v H'
        | .err x os' => ∀ H' cls d, (∀ b o, H b = some o → b ∉ ad → H' b = some o) → OsOk K H' (Ma ad Bar) ad os' → XnOk K mg H' (Ma ad Bar) x cls d → E cls d H'
        | .bad => False := P1
      by_cases c : fr = true ∧ noL d = false
      · rw [if_pos c] at P2; exact P2.elim
      · rw [if_neg c] at P2
        refine P2 v H' (frame S') oo (Rp.fewer sub r) fun hf => .inl ?_
        cases z : noL d with
        | true => rfl
        | false => exact absurd ⟨hf, z⟩ c
    | loc n =>
      obtain ⟨fp, a0, e1, e2, rfl⟩ := r
      have P2 : match (if os.length ≤ n then (match h[n]? with
        | some (.lst ds) => if fr = true ∧ noLs ds = false then .bad else .ok (.list ds) (h.take os.length)
        | _ => .bad) else .bad : Rz PyData) with
        | .ok d os' => ∀ v H', (∀ b o, H b = some o → b ∉ ad → H' b = some o) → OsOk K H' (Ma ad Bar) ad os' → Rp K H' (Ma ad Bar) v d → (fr = true → FrOk K H H' (Ma ad Bar) v d) → Q v H'
        | .err x os' => ∀ H' cls d, (∀ b o, H b = some o → b ∉ ad → H' b = some o) → OsOk K H' (Ma ad Bar) ad os' → XnOk K mg H' (Ma ad Bar) x cls d → E cls d H'
        | .bad => False := P1
      by_cases hn : os.length ≤ n
      · rw [if_pos hn] at P2
        cases z : h[n]? with
        | none => rw [z] at P2; exact P2.elim
        | some o =>
          rw [z] at P2
          cases o with
          | dic _ => exact P2.elim
          | lst ls =>
            dsimp only at P2
            obtain ⟨e1', ws, hw, ra⟩ := S'.lst e1 e2 z
            have mem : a0 ∈ ρ'.flatten := flat_at e1' (by simp)
            have nad : a0 ∉ ad := fun m => by
              obtain ⟨j, hj, ej⟩ := List.getElem_of_mem m
              obtain ⟨fp', e3, q3⟩ := S'.pre j [a0] (by show (ad.map fun a => [a])[j]? = _; rw [List.getElem?_map, List.getElem?_eq_getElem hj, ej]; rfl)
              have hm : a0 ∈ fp' := by
                cases fp' with
                | nil => cases q3
                | cons c r => cases q3; simp
              have := nodup_apart S'.nd e1' e3 (by simp) hm
              omega
            have new : H a0 = none := by
              rcases S'.own a0 mem with w | w
              · exact absurd (by
                  have w' : a0 ∈ (ad.map fun a => [a]).flatten := w
                  rw [flatten_ones] at w'; exact w') nad
              · exact w
            have nbar : ¬ Bar a0 := fun b => (S'.bar a0 b).1 mem
            by_cases c : fr = true ∧ noLs ls = false
            · rw [if_pos c] at P2; exact P2.elim
            · rw [if_neg c] at P2
              refine P2 (.ref a0) H' (frame S') oo (.lst (.inl ⟨.inl hw, fun m => m.elim nad nbar⟩) (ra.fewer sub)) fun hf => .inr ⟨a0, ws, ls, rfl, rfl, new, hw, ra.fewer sub, ?_⟩
              cases z : noLs ls with
              | true => rfl
              | false => exact absurd ⟨hf, z⟩ c
      · rw [if_neg hn] at P2; exact P2.elim
end FL

namespace FL
open PySem PySem.Spec PyProof.Rows L2

/-! ### calls of defs -/
/-- the arguments taken apart: data, the places of objects that may be changed, these objects, the places of those that are only looked at -/
def splitA : List Bool → List Sl → Hs → Option (List PyData × List Nat × Hs × List Nat)
  | [], [], _ => some ([], [], [], [])
  | false :: io, s :: ss, h => match dat s h, splitA io ss h with
    | some d, some (ds, ns, os, vw) => some (d :: ds, ns, os, match s with
      | .loc n => n :: vw
      | .val _ => vw)
    | _, _ => none
  | true :: io, .loc n :: ss, h => match h[n]?, splitA io ss h with
    | some o, some (ds, ns, os, vw) => some (ds, n :: ns, o :: os, vw)
    | _, _ => none
  | _, _, _ => none
def putObs : List Nat → Hs → Hs → Hs
  | n :: ns, o :: os, h => putObs ns os (h.set n o)
  | _, _, h => h
def obNoL : Ob → Bool
  | .lst ds => noLs ds
  | .dic kvs => noLs (kvs.map (·.2))
def apartN : List Nat → List Nat → Bool
  | [], _ => true
  | n :: ns, vw => !(ns.contains n) && !(vw.contains n) && apartN ns vw
/-- a call's outcome in the caller -/
def callF (m : Fm) (io : List Bool) (fr : Bool) (ss : List Sl) (h : Hs) : Rz Sl := match splitA io ss h with
  | some (ds, ns, os, vw) => if apartN ns vw = true ∧ (vw = [] ∨ fr = true) then (match m ds os with
      | .ok d os' => if vw = [] ∨ os'.all obNoL = true then .ok (.val d) (putObs ns os' h) else .bad
      | .err x os' => if vw = [] ∨ (os'.all obNoL = true ∧ noLs (x.fs.map (·.2)) = true) then .err x (putObs ns os' h) else .bad
      | .bad => .bad) else .bad
  | none => .bad
def eCall (m : Fm) (io : List Bool) (fr : Bool) (fa : Av) : Ev := fun env h => (fa env h).bind fun ss h => callF m io fr ss h
/-- .. whose list becomes one of the def's own -/
def callN (m : Fm) (io : List Bool) (ss : List Sl) (h : Hs) : Rz Sl := match splitA io ss h with
  | some (ds, ns, os, vw) => if apartN ns vw = true then (match m ds os with
      | .ok (.list ls) os' => if os'.all obNoL = true then .ok (.loc h.length) (putObs ns os' h ++ [.lst ls]) else .bad
      | .err x os' => if vw = [] ∨ (os'.all obNoL = true ∧ noLs (x.fs.map (·.2)) = true) then .err x (putObs ns os' h) else .bad
      | _ => .bad) else .bad
  | none => .bad
def eCallN (m : Fm) (io : List Bool) (fa : Av) : Ev := fun env h => (fa env h).bind fun ss h => callN m io ss h

/-! ### data without lists -/
section
variable {K : PySem.W.Frag} {H : Hp} {M M' : Ms}
mutual
theorem Rp.noLists (t : ∀ a xs, QT K H M a xs → QT K H M' a xs) : ∀ (d : PyData) (v : V), noL d = true → Rp K H M v d → Rp K H M' v d
  | .none, _, _, h => by cases h; exact .non
  | .bool b, _, _, h => by cases h; exact .bl b
  | .int i, _, _, h => by cases h; exact .int i
  | .str x, _, _, h => by cases h; exact .str x
  | .list ds, _, e, h => by simp [noL] at e
  | .tuple ds, _, e, h => by
    cases h with
    | tup q ra => exact .tup (t _ _ q) (RpAll.noLists t ds _ (by simpa [noL] using e) ra)
  | .dict _, _, _, h => by cases h
theorem RpAll.noLists (t : ∀ a xs, QT K H M a xs → QT K H M' a xs) : ∀ (ds : List PyData) (vs : List V), noLs ds = true → RpAll K H M vs ds → RpAll K H M' vs ds
  | [], _, _, h => by cases h; exact .nil
  | d :: ds, _, e, h => by
    have e' : noL d = true ∧ noLs ds = true := by simpa [noLs] using e
    cases h with
    | cons r ra => exact .cons (Rp.noLists t d _ e'.1 r) (RpAll.noLists t ds _ e'.2 ra)
end
end
section
variable {K : PySem.W.Frag} {C : Fc} {ρ : Fps} {H : Hp} {h : Hs}
/-- the roots of some objects -/
def Roots (ρ : Fps) (ns : List Nat) (ad : List Addr) : Prop := Paired (fun (n : Nat) (a : Addr) => ρ[n]? = some [a]) ns ad
/-- what a callee may not hand on: the caller's other objects -/
def BarOf (C : Fc) (ρ : Fps) (ad vr : List Addr) : Ms := fun b => (b ∈ ρ.flatten ∧ b ∉ ad ∧ b ∉ vr) ∨ C.Bar b
theorem ob_root {n : Nat} {fp : List Addr} {o : Ob} (S : SimH K C ρ h H) (e : ρ[n]? = some fp) (e' : h[n]? = some o) : ∃ a, fp = [a] := by
  have x := S.obj n fp o e e'
  cases o with
  | lst ds => obtain ⟨a, _, rfl, _⟩ := x; exact ⟨a, rfl⟩
  | dic ds => obtain ⟨a, _, rfl, _⟩ := x; exact ⟨a, rfl⟩
theorem split_lens : ∀ {io : List Bool} {ss : List Sl} {ds : List PyData} {ns : List Nat} {os : Hs} {vw : List Nat}, splitA io ss h = some (ds, ns, os, vw) → ns.length = os.length
  | [], [], ds, ns, os, vw, e => by
    have e' : some (([] : List PyData), ([] : List Nat), ([] : Hs), ([] : List Nat)) = some (ds, ns, os, vw) := e
    cases e'; rfl
  | false :: io, s :: ss, ds, ns, os, vw, e => by
    unfold splitA at e
    split at e
    · rename_i d ds' ns' os' vw' e1 e2
      cases e
      exact split_lens e2
    · cases e
  | true :: io, .loc n :: ss, ds, ns, os, vw, e => by
    unfold splitA at e
    split at e
    · rename_i o ds' ns' os' vw' e1 e2
      cases e
      exact congrArg (· + 1) (split_lens e2)
    · cases e
  | true :: _, .val _ :: _, _, _, _, _, e => by simp [splitA] at e
  | [], _ :: _, _, _, _, _, e => by simp [splitA] at e
  | false :: _, [], _, _, _, _, e => by simp [splitA] at e
  | true :: _, [], _, _, _, _, e => by simp [splitA] at e
/-- the roots of the objects that are handed over -/
theorem split_roots (S : SimH K C ρ h H) : ∀ {io : List Bool} {ss : List Sl} {vs : List V} {ds : List PyData} {ns : List Nat} {os : Hs} {vw : List Nat}, SlVs K C ρ H vs ss → splitA io ss h = some (ds, ns, os, vw) →
    ∃ ad vr, Roots ρ ns ad ∧ Roots ρ vw vr ∧ (∀ a ∈ vr, ∃ xs, H a = some (.lst xs)) ∧ ∀ M : Ms, (∀ b, M b → Mo C ρ b) → (∀ a ∈ vr, ¬ M a) → ArgsOk K H M io vs ds os ad
  | [], [], vs, ds, ns, os, vw, r, e => by
    have e' : some (([] : List PyData), ([] : List Nat), ([] : Hs), ([] : List Nat)) = some (ds, ns, os, vw) := e
    cases e'
    cases r
    exact ⟨[], [], .nil, .nil, fun a m => (by cases m), fun _ _ _ => .nil⟩
  | false :: io, s :: ss, vs, ds, ns, os, vw, r, e => by
    unfold splitA at e
    split at e
    · rename_i d ds' ns' os' vw' e1 e2
      cases e
      cases r with
      | cons r1 r2 =>
        obtain ⟨ad, vr, ha, hv, hl, k⟩ := split_roots S r2 e2
        cases s with
        | val d0 =>
          have ed : some d0 = some d := e1
          cases ed
          exact ⟨ad, vr, ha, hv, hl, fun M hM hn => .val (Rp.fewer hM r1) (k M hM hn)⟩
        | loc n =>
          obtain ⟨fp, a, q1, q2, rfl⟩ := r1
          have e1' : (match h[n]? with
            | some (.lst ds) => some (.list ds)
            | _ => none) = some d := e1
          split at e1'
          · rename_i ls e3
            cases e1'
            obtain ⟨q1', ws, hw, ra⟩ := S.lst q1 q2 e3
            refine ⟨ad, a :: vr, ha, .cons q1' hv, fun b hb => (List.mem_cons.mp hb).elim (fun z => ⟨ws, z ▸ hw⟩) (hl b), fun M hM hn => .val (.lst (.inl ⟨.inl hw, hn a (by simp)⟩) (ra.fewer hM)) (k M hM fun b hb => hn b (by simp [hb]))⟩
          · cases e1'
    · cases e
  | true :: io, .loc n :: ss, vs, ds, ns, os, vw, r, e => by
    unfold splitA at e
    split at e
    · rename_i o ds' ns' os' vw' e1 e2
      cases e
      cases r with
      | cons r1 r2 =>
        obtain ⟨ad, vr, ha, hv, hl, k⟩ := split_roots S r2 e2
        obtain ⟨fp, a, q1, q2, rfl⟩ := r1
        obtain ⟨b, rfl⟩ := ob_root S q1 e1
        cases q2
        exact ⟨a :: ad, vr, .cons q1 ha, hv, hl, fun M hM hn => .obj (ObOk.fewer hM (S.obj n [a] o q1 e1)) (k M hM hn)⟩
    · cases e
  | true :: _, .val _ :: _, _, _, _, _, _, _, e => by simp [splitA] at e
  | [], _ :: _, _, _, _, _, _, _, e => by simp [splitA] at e
  | false :: _, [], _, _, _, _, _, _, e => by simp [splitA] at e
  | true :: _, [], _, _, _, _, _, _, e => by simp [splitA] at e
theorem Roots.mem {ns : List Nat} {ad : List Addr} (r : Roots ρ ns ad) : ∀ a ∈ ad, a ∈ ρ.flatten := by
  induction r with
  | nil => intro a h; cases h
  | cons e t ih =>
    intro a h
    rcases List.mem_cons.mp h with z | z
    · subst z; exact flat_at e (by simp)
    · exact ih a z
theorem Roots.ix {ns : List Nat} {ad : List Addr} (r : Roots ρ ns ad) : ∀ a ∈ ad, ∃ n ∈ ns, ρ[n]? = some [a] := by
  induction r with
  | nil => intro a h; cases h
  | @cons n b _ _ e t ih =>
    intro a h
    rcases List.mem_cons.mp h with z | z
    · subst z; exact ⟨n, by simp, e⟩
    · obtain ⟨m, hm, q⟩ := ih a z
      exact ⟨m, by simp [hm], q⟩
theorem apart_nodup (nd : ρ.flatten.Nodup) {vw : List Nat} : ∀ {ns : List Nat} {ad : List Addr}, Roots ρ ns ad → apartN ns vw = true → ad.Nodup ∧ (∀ n ∈ ns, n ∉ vw) ∧ ns.Nodup
  | [], _, .nil, _ => ⟨by simp, by simp, by simp⟩
  | n :: ns, _, .cons (b := a) e t, h => by
    have h' : ns.contains n = false ∧ vw.contains n = false ∧ apartN ns vw = true := by
      simp only [apartN, Bool.and_eq_true, Bool.not_eq_true'] at h
      exact ⟨h.1.1, h.1.2, h.2⟩
    have hn : n ∉ ns := fun m => by
      have := List.contains_iff_mem.mpr m
      rw [h'.1] at this; cases this
    have hv : n ∉ vw := fun m => by
      have := List.contains_iff_mem.mpr m
      rw [h'.2.1] at this; cases this
    obtain ⟨i1, i2, i3⟩ := apart_nodup nd t h'.2.2
    refine ⟨List.nodup_cons.mpr ⟨fun m => ?_, i1⟩, fun k hk => ?_, List.nodup_cons.mpr ⟨hn, i3⟩⟩
    · obtain ⟨j, hj, ej⟩ := Roots.ix t a m
      have := nodup_apart (a := a) nd e ej (by simp) (by simp)
      subst this
      exact hn hj
    · rcases List.mem_cons.mp hk with z | z
      · subst z; exact hv
      · exact i2 k z
theorem putObs_len : ∀ (ns : List Nat) (os : Hs) (h : Hs), (putObs ns os h).length = h.length
  | [], _, _ => rfl
  | _ :: _, [], _ => rfl
  | n :: ns, o :: os, h => by
    show (putObs ns os (h.set n o)).length = _
    rw [putObs_len ns os, List.length_set]
theorem putObs_get : ∀ {ns : List Nat} {ad : List Addr} {os : Hs} {h : Hs} {k : Nat} {o : Ob}, Roots ρ ns ad → ns.Nodup → (putObs ns os h)[k]? = some o → (k ∉ ns ∧ h[k]? = some o) ∨ (∃ (j : Nat) (a : Addr), ad[j]? = some a ∧ ρ[k]? = some [a] ∧ os[j]? = some o) ∨ os.length < ns.length
  | [], _, os, h, k, o, _, _, e => .inl ⟨by simp, e⟩
  | n :: ns, _, [], h, k, o, _, _, e => .inr (.inr (by simp))
  | n :: ns, _, o' :: os, h, k, o, .cons (b := a) q t, nd, e => by
    have e' : (putObs ns os (h.set n o'))[k]? = some o := e
    obtain ⟨nn, nd'⟩ := List.nodup_cons.mp nd
    rcases putObs_get t nd' e' with ⟨hk, e1⟩ | ⟨j, b, e1, e2, e3⟩ | hl
    · by_cases z : n = k
      · subst z
        rw [List.getElem?_set, if_pos rfl] at e1
        split at e1
        · cases e1
          exact .inr (.inl ⟨0, a, rfl, q, rfl⟩)
        · cases e1
      · rw [List.getElem?_set_ne z] at e1
        exact .inl ⟨fun m => by
          rcases List.mem_cons.mp m with w | w
          · exact z w.symm
          · exact hk w, e1⟩
    · exact .inr (.inl ⟨j + 1, b, by simpa using e1, e2, by simpa using e3⟩)
    · exact .inr (.inr (by simp; omega))
/-- tuples avoid the objects that lists are -/
theorem QT.of_lists {M M' : Ms} {H : Hp} (hl : ∀ b, M' b → M b ∨ ∃ xs, H b = some (.lst xs)) (a : Addr) (xs : List V) (q : QT K H M a xs) : QT K H M' a xs := by
  rcases q with ⟨r, n⟩ | q
  · refine .inl ⟨r, fun m => ?_⟩
    rcases hl a m with z | ⟨ys, z⟩
    · exact n z
    · rcases r with r | ⟨o, r⟩ <;> (rw [z] at r; cases r)
  · exact .inr q
theorem ObOk.noLists {M M' : Ms} {fp : List Addr} {o : Ob} {H : Hp} (t : ∀ a xs, QT K H M a xs → QT K H M' a xs) (e : obNoL o = true) (x : ObOk K H M fp o) : ObOk K H M' fp o := by
  cases o with
  | lst ds =>
    obtain ⟨a, vs, rfl, q, r⟩ := x
    exact ⟨a, vs, rfl, q, RpAll.noLists t _ _ e r⟩
  | dic kvs =>
    obtain ⟨a, vs, rfl, q, z, r⟩ := x
    exact ⟨a, vs, rfl, q, z, RpAll.noLists t _ _ e r⟩
/-- behind a call: the caller's state -/
theorem call_after {C2 : Fc} {ad vr : List Addr} {ns vw : List Nat} {os' : Hs} {H' : Hp} {D : Ms} (S : SimH K C ρ h H) (ha : Roots ρ ns ad) (hv : Roots ρ vw vr) (hvl : ∀ a ∈ vr, ∃ xs, H a = some (.lst xs)) (nd : ns.Nodup) (dj : ∀ n ∈ ns, n ∉ vw)
    (fr : ∀ b o, H b = some o → b ∉ ad → H' b = some o) (oo : OsOk K H' (Ma ad (BarOf C ρ ad vr)) ad os') (hn : vw = [] ∨ os'.all obNoL = true) (e0 : C2 = { C with Bar := fun a => C.Bar a ∨ D a }) (hD : ∀ b, D b → H b = none ∧ (∃ o, H' b = some o) ∧ os'.all obNoL = true) (hDl : ∀ b, D b → ∃ xs, H' b = some (.lst xs)) :
    SimH K C2 ρ (putObs ns os' h) H' ∧ Stp (Mo C ρ) H (Mo C2 ρ) H' := by
  have adm : ∀ b ∈ ad, b ∈ ρ.flatten := ha.mem
  have lens : ns.length = ad.length := Paired.length ha
  have Mo2 : ∀ b, Mo C2 ρ b → Mo C ρ b ∨ D b := fun b m => by
    subst e0
    rcases m with m | m | m
    · exact .inl (.inl m)
    · exact .inl (.inr m)
    · exact .inr m
  have st : Stp (Mo C ρ) H (Mo C2 ρ) H' := ⟨fun b o e n => fr b o e fun m => n (.inl (adm b m)), fun b m => by
    rcases Mo2 b m with m | m
    · exact .inl m
    · exact .inr (hD b m).1⟩
  have trk' : ∀ b ∈ ρ.flatten, ∃ o, H' b = some o := fun b m => by
    by_cases hb : b ∈ ad
    · obtain ⟨j, hj, ej⟩ := List.getElem_of_mem hb
      have h2 : j < os'.length := by rw [← oo.1]; exact hj
      exact (oo.2 j b os'[j] (by rw [← ej]; exact List.getElem?_eq_getElem hj) (List.getElem?_eq_getElem h2)).trk b (by simp)
    · obtain ⟨o, e⟩ := S.trk b m
      exact ⟨o, fr b o e hb⟩
  refine ⟨⟨by rw [putObs_len]; exact S.len, S.nd, trk', fun k fp o e1 e2 => ?_, fun b o e n => ?_, fun b m => by subst e0; exact S.own b m, fun b m => ?_, fun b m => ?_, fun n fp e => by subst e0; exact S.pre n fp e⟩, st⟩
  · rcases putObs_get ha nd e2 with ⟨hk, e3⟩ | ⟨j, a, q1, q2, q3⟩ | hl
    · refine ObOk.stp st (fun b m => ?_) (S.obj k fp o e1 e3)
      have nb : b ∉ ad := fun z => by
        obtain ⟨n, hn', en⟩ := ha.ix b z
        have := nodup_apart S.nd en e1 (by simp) m
        subst this
        exact hk hn'
      obtain ⟨u, eu⟩ := S.trk b (flat_at e1 m)
      rw [eu]
      exact fr b u eu nb
    · rw [q2] at e1
      cases e1
      have x := oo.2 j a o q1 q3
      rcases hn with hn | hn
      · subst hn
        cases hv
        by_cases hd : ∃ b, D b
        · obtain ⟨b0, hb0⟩ := hd
          refine ObOk.noLists (fun a' xs' => QT.of_lists (fun b m => ?_) a' xs') (List.all_eq_true.mp (hD b0 hb0).2.2 o (List.mem_of_getElem? q3)) x
          rcases Mo2 b m with m | m
          · rcases m with m | m
            · by_cases hb : b ∈ ad
              · exact .inl (.inl hb)
              · exact .inl (.inr (.inl ⟨m, hb, by simp⟩))
            · exact .inl (.inr (.inr m))
          · exact .inr (hDl b m)
        · refine ObOk.fewer (fun b m => ?_) x
          rcases Mo2 b m with m | m
          · rcases m with m | m
            · by_cases hb : b ∈ ad
              · exact .inl hb
              · exact .inr (.inl ⟨m, hb, by simp⟩)
            · exact .inr (.inr m)
          · exact absurd ⟨b, m⟩ hd
      · refine ObOk.noLists (fun a' xs' => QT.of_lists (fun b m => ?_) a' xs') (List.all_eq_true.mp hn o (List.mem_of_getElem? q3)) x
        rcases Mo2 b m with m | m
        · rcases m with m | m
          · by_cases hb : b ∈ ad
            · exact .inl (.inl hb)
            · by_cases hb2 : b ∈ vr
              · right
                obtain ⟨xs, ex⟩ := hvl b hb2
                exact ⟨xs, fr b _ ex hb⟩
              · exact .inl (.inr (.inl ⟨m, hb, hb2⟩))
          · exact .inl (.inr (.inr m))
        · exact .inr (hDl b m)
    · rw [← oo.1, ← lens] at hl
      omega
  · subst e0
    refine fr b o (S.fr b o e n) fun m => ?_
    rcases S.own b (adm b m) with z | z
    · exact n z
    · rw [e] at z; cases z
  · subst e0
    rcases m with m | m
    · obtain ⟨q1, o, q2⟩ := S.bar b m
      exact ⟨q1, o, fr b o q2 fun z => q1 (adm b z)⟩
    · obtain ⟨q1, q2, _⟩ := hD b m
      refine ⟨fun z => ?_, q2⟩
      obtain ⟨o, e⟩ := S.trk b z
      rw [q1] at e; cases e
  · subst e0
    by_cases hb : b ∈ ad
    · exact trk' b (adm b hb)
    · obtain ⟨o, e⟩ := S.wtr b m
      exact ⟨o, fr b o e hb⟩
/-- the caller's bar -/
theorem bar_of (S : SimH K C ρ h H) {ad vr : List Addr} (hm : ∀ a ∈ ad, a ∈ ρ.flatten) : ∀ b, BarOf C ρ ad vr b → b ∉ ad ∧ ∃ o, H b = some o := fun b m => by
  rcases m with ⟨m, n, _⟩ | m
  · exact ⟨n, S.trk b m⟩
  · exact ⟨fun z => (S.bar b m).1 (hm b z), (S.bar b m).2⟩
/-- what a call wants -/
theorem sp_call {mg : Str → Option Value} {Wx : WX} {σ : St} {m : Fm} {io : List Bool} {fr : Bool} {ss : List Sl} {vs : List V} {Q : VK} (S : SimH K C ρ h H) (r : SlVs K C ρ H vs ss) (P : Po K mg C Wx σ ρ H (relE K C) (callF m io fr ss h) Q) :
    spOf K mg fr io m vs H Q fun cls d H' => Wx cls d σ H' := by
  unfold callF at P
  cases e : splitA io ss h with
  | none => rw [e] at P; exact P.elim
  | some q =>
    obtain ⟨ds, ns, os, vw⟩ := q
    rw [e] at P
    dsimp only at P
    by_cases c : apartN ns vw = true ∧ (vw = [] ∨ fr = true)
    · rw [if_pos c] at P
      obtain ⟨ad, vr, ha, hv, hvl, k⟩ := split_roots S r e
      obtain ⟨nda, dj, ndn⟩ := apart_nodup S.nd ha c.1
      have adm := ha.mem
      have vdj : ∀ b ∈ vr, b ∉ ad := fun b hb z => by
        obtain ⟨n1, h1, e1⟩ := hv.ix b hb
        obtain ⟨n2, h2, e2⟩ := ha.ix b z
        have := nodup_apart (a := b) S.nd e2 e1 (by simp) (by simp)
        subst this
        exact dj n2 h2 h1
      have barv : ∀ b ∈ vr, ¬ Ma ad (BarOf C ρ ad vr) b := fun b hb z => by
        rcases z with z | ⟨_, _, z⟩ | z
        · exact vdj b hb z
        · exact z hb
        · exact (S.bar b z).1 (hv.mem b hb)
      have sub : ∀ b, Ma ad (BarOf C ρ ad vr) b → Mo C ρ b := fun b z => by
        rcases z with z | ⟨z, _, _⟩ | z
        · exact .inl (adm b z)
        · exact .inl z
        · exact .inr z
      refine ⟨ad, BarOf C ρ ad vr, ds, os, k _ sub barv, nda, bar_of S adm, ?_⟩
      -- the other way round, where nothing is only looked at
      have sup : vw = [] → ∀ b, Mo C ρ b → Ma ad (BarOf C ρ ad vr) b := fun hw b z => by
        subst hw
        cases hv
        rcases z with z | z
        · by_cases hb : b ∈ ad
          · exact .inl hb
          · exact .inr (.inl ⟨z, hb, by simp⟩)
        · exact .inr (.inr z)
      have tups : ∀ {H' : Hp}, (∀ b o, H b = some o → b ∉ ad → H' b = some o) → ∀ a xs, QT K H' (Ma ad (BarOf C ρ ad vr)) a xs → QT K H' (Mo C ρ) a xs := fun {H'} hf => QT.of_lists fun b z => by
        rcases z with z | z
        · by_cases hb : b ∈ ad
          · exact .inl (.inl hb)
          · by_cases hb2 : b ∈ vr
            · obtain ⟨xs, ex⟩ := hvl b hb2
              exact .inr ⟨xs, hf b _ ex hb⟩
            · exact .inl (.inr (.inl ⟨z, hb, hb2⟩))
        · exact .inl (.inr (.inr z))
      cases q : m ds os with
      | bad => rw [q] at P; exact P.elim
      | ok d os' =>
        rw [q] at P
        dsimp only at P
        intro v H' hf oo rv hfr
        by_cases c2 : vw = [] ∨ os'.all obNoL = true
        · rw [if_pos c2] at P
          obtain ⟨S', st⟩ := call_after (C2 := { C with Bar := fun a => C.Bar a ∨ False }) (D := fun _ => False) S ha hv hvl ndn dj hf oo c2 rfl (fun _ z => z.elim) (fun _ z => z.elim)
          have eC : ({ C with Bar := fun a => C.Bar a ∨ False } : Fc) = C := by
            cases C
            simp
          rw [eC] at S' st
          refine P ρ v H' ⟨st, fun n fp e => ⟨fp, e, rfl⟩⟩ S' ?_
          rcases c.2 with hw | hw
          · exact Rp.fewer (sup hw) rv
          · rcases hfr hw with z | ⟨a, ws, ls, rfl, rfl, n0, e1, ra, z⟩
            · exact Rp.noLists (tups hf) d v z rv
            · refine .lst (.inl ⟨.inl e1, fun mm => ?_⟩) (RpAll.noLists (tups hf) ls ws z ra)
              obtain ⟨o, eo⟩ := S.trkM mm
              rw [n0] at eo; cases eo
        · rw [if_neg c2] at P; exact P.elim
      | err x os' =>
        rw [q] at P
        dsimp only at P
        intro H' cls d hf oo xn
        by_cases c2 : vw = [] ∨ (os'.all obNoL = true ∧ noLs (x.fs.map (·.2)) = true)
        · rw [if_pos c2] at P
          obtain ⟨S', st⟩ := call_after (C2 := { C with Bar := fun a => C.Bar a ∨ False }) (D := fun _ => False) S ha hv hvl ndn dj hf oo (c2.imp id And.left) rfl (fun _ z => z.elim) (fun _ z => z.elim)
          have eC : ({ C with Bar := fun a => C.Bar a ∨ False } : Fc) = C := by
            cases C
            simp
          rw [eC] at S' st
          refine P ρ H' cls d ⟨st, fun n fp e => ⟨fp, e, rfl⟩⟩ S' ⟨xn.1, xn.2.imp id fun ⟨da, ws, h1, h2, h3, h4⟩ => ⟨da, ws, h1, h2, h3, ?_⟩⟩
          rcases c2 with hw | hw
          · exact h4.fewer (sup hw)
          · exact RpAll.noLists (tups hf) _ _ hw.2 h4
        · rw [if_neg c2] at P; exact P.elim
    · rw [if_neg c] at P; exact P.elim
/-- .. whose list becomes one of the caller's own -/
theorem sp_callN {mg : Str → Option Value} {Wx : WX} {σ : St} {m : Fm} {io : List Bool} {ss : List Sl} {vs : List V} {Q : VK} (S : SimH K C ρ h H) (r : SlVs K C ρ H vs ss) (P : Po K mg C Wx σ ρ H (relE K C) (callN m io ss h) Q) :
    spOf K mg true io m vs H Q fun cls d H' => Wx cls d σ H' := by
  unfold callN at P
  cases e : splitA io ss h with
  | none => rw [e] at P; exact P.elim
  | some q =>
    obtain ⟨ds, ns, os, vw⟩ := q
    rw [e] at P
    dsimp only at P
    by_cases c : apartN ns vw = true
    · rw [if_pos c] at P
      obtain ⟨ad, vr, ha, hv, hvl, k⟩ := split_roots S r e
      obtain ⟨nda, dj, ndn⟩ := apart_nodup S.nd ha c
      have adm := ha.mem
      have vdj : ∀ b ∈ vr, b ∉ ad := fun b hb z => by
        obtain ⟨n1, h1, e1⟩ := hv.ix b hb
        obtain ⟨n2, h2, e2⟩ := ha.ix b z
        have := nodup_apart (a := b) S.nd e2 e1 (by simp) (by simp)
        subst this
        exact dj n2 h2 h1
      have barv : ∀ b ∈ vr, ¬ Ma ad (BarOf C ρ ad vr) b := fun b hb z => by
        rcases z with z | ⟨_, _, z⟩ | z
        · exact vdj b hb z
        · exact z hb
        · exact (S.bar b z).1 (hv.mem b hb)
      have sub : ∀ b, Ma ad (BarOf C ρ ad vr) b → Mo C ρ b := fun b z => by
        rcases z with z | ⟨z, _, _⟩ | z
        · exact .inl (adm b z)
        · exact .inl z
        · exact .inr z
      refine ⟨ad, BarOf C ρ ad vr, ds, os, k _ sub barv, nda, bar_of S adm, ?_⟩
      have sup : vw = [] → ∀ b, Mo C ρ b → Ma ad (BarOf C ρ ad vr) b := fun hw b z => by
        subst hw
        cases hv
        rcases z with z | z
        · by_cases hb : b ∈ ad
          · exact .inl hb
          · exact .inr (.inl ⟨z, hb, by simp⟩)
        · exact .inr (.inr z)
      have tups : ∀ {H' : Hp} {D : Ms}, (∀ b, D b → ∃ xs, H' b = some (.lst xs)) → (∀ b o, H b = some o → b ∉ ad → H' b = some o) → ∀ a xs, QT K H' (Ma ad (BarOf C ρ ad vr)) a xs → QT K H' (fun b => Mo C ρ b ∨ D b) a xs := fun {H' D} hd hf => QT.of_lists fun b z => by
        rcases z with (z | z) | z
        · by_cases hb : b ∈ ad
          · exact .inl (.inl hb)
          · by_cases hb2 : b ∈ vr
            · obtain ⟨xs, ex⟩ := hvl b hb2
              exact .inr ⟨xs, hf b _ ex hb⟩
            · exact .inl (.inr (.inl ⟨z, hb, hb2⟩))
        · exact .inl (.inr (.inr z))
        · exact .inr (hd b z)
      cases q : m ds os with
      | bad => rw [q] at P; exact P.elim
      | ok d os' =>
        rw [q] at P
        intro v H' hf oo rv hfr
        cases d with
        | list ls =>
          dsimp only at P
          by_cases c2 : os'.all obNoL = true
          · rw [if_pos c2] at P
            rcases hfr rfl with z | ⟨a, ws, ls', rfl, ed, n0, e1, ra, z⟩
            · simp [noL] at z
            · cases ed
              obtain ⟨S', st⟩ := call_after (C2 := C.plus a) (D := fun b => b = a) S ha hv hvl ndn dj hf oo (.inr c2) rfl (fun b z => by subst z; exact ⟨n0, ⟨_, e1⟩, c2⟩) (fun b z => by subst z; exact ⟨_, e1⟩)
              have ra' : RpAll K H' (Mo (C.plus a) ρ) ws ls := RpAll.fewer (fun b z => by
                rcases z with z | z | z
                · exact .inl (.inl z)
                · exact .inl (.inr z)
                · exact .inr z) (RpAll.noLists (tups (D := fun b => b = a) (fun b z => by subst z; exact ⟨_, e1⟩) hf) ls ws z ra)
              have h0 : C.H0 a = none := by
                cases q0 : C.H0 a with
                | none => rfl
                | some o =>
                  by_cases hw : a ∈ C.W.flatten
                  · obtain ⟨o', e'⟩ := S.wtr a hw
                    rw [n0] at e'; cases e'
                  · have := S.fr a o q0 hw
                    rw [n0] at this; cases this
              have nb : ¬ C.Bar a := fun b => by
                obtain ⟨_, o, e'⟩ := S.bar a b
                rw [n0] at e'; cases e'
              have S2 := S'.adopt (ob := .lst ls) h0 nb ⟨a, ws, rfl, e1, ra'⟩
              refine P (ρ ++ [[a]]) (.ref a) H' ⟨⟨st.keep, fun b mm => st.new b (Mo.adopt.mp mm)⟩, fun n fp e => ⟨fp, by
                rw [List.getElem?_append_left (List.getElem?_eq_some_iff.mp e).1]; exact e, rfl⟩⟩ S2 ?_
              rw [← S.len]
              exact SlV.pushed _
          · rw [if_neg c2] at P; exact P.elim
        | _ => exact P.elim
      | err x os' =>
        rw [q] at P
        dsimp only at P
        intro H' cls d hf oo xn
        by_cases c2 : vw = [] ∨ (os'.all obNoL = true ∧ noLs (x.fs.map (·.2)) = true)
        · rw [if_pos c2] at P
          obtain ⟨S', st⟩ := call_after (C2 := { C with Bar := fun a => C.Bar a ∨ False }) (D := fun _ => False) S ha hv hvl ndn dj hf oo (c2.imp id And.left) rfl (fun _ z => z.elim) (fun _ z => z.elim)
          have eC : ({ C with Bar := fun a => C.Bar a ∨ False } : Fc) = C := by
            cases C
            simp
          rw [eC] at S' st
          refine P ρ H' cls d ⟨st, fun n fp e => ⟨fp, e, rfl⟩⟩ S' ⟨xn.1, xn.2.imp id fun ⟨da, ws, h1, h2, h3, h4⟩ => ⟨da, ws, h1, h2, h3, ?_⟩⟩
          rcases c2 with hw | hw
          · exact h4.fewer (sup hw)
          · exact RpAll.fewer (fun b z => .inl z) (RpAll.noLists (tups (D := fun _ => False) (fun _ z => z.elim) hf) _ _ hw.2 h4)
        · rw [if_neg c2] at P; exact P.elim
    · rw [if_neg c] at P; exact P.elim
end
/-! ### the rules -/
section
variable {X : Cx} {C : Fc} {Wx : WX} {k : Nat} {f : Addr} {fd : FuncData} {ps : List Str} {m : Fm} {io : List Bool} {fr : Bool} {x : Str} {p pos : Pos} {e : Expr} {es : List Expr} {fa : Av}
theorem run_fnG {pins : List (Addr × Obj)} {σ : St} {H : Hp} {s : Shared} {Q : VK} {us : List Value} {vs : List V} {sp : Sp} (F : FnG X.prog X.w X.K X.mg X.base (L2.CX X.prog X.w) k f fd ps sp) (hgd : X.A.guards = some []) (hr : Room k X.A) (hb : Binds X.K fd ps []) (tk : Takes X Wx)
    (I : Inv X pins σ H s) (r : Vals vs us) (h : sp vs H Q fun cls d H' => Wx cls d σ H') : wpAny (model X.prog X.w) X.A (call (.ref f) us) (EP X pins σ Q) X.xe s := by
  have hl : us.length = ps.length := by rw [← r.length]; exact F.len _ _ _ _ h
  have b := hb s us I.kIn (by rw [List.append_nil]; exact hl)
  rw [List.append_nil] at b
  refine wpAny_call (codeAny_mono (F.run X.A X.stack s H ⟨us, []⟩ us vs Q _ hgd hr I.env0 b r h) ?_)
  rintro (er | fl) s' hq
  · exact tk _ s' (XE.of_call I (fun _ _ _ w => w) hq)
  · cases fl with
    | ret u => exact I.after hq
    | _ => exact False.elim hq
theorem fe_callG {g : List Sl → Hs → Rz Sl} {sp : Sp} (F : FnG X.prog X.w X.K X.mg X.base (L2.CX X.prog X.w) k f fd ps sp) (hgd : X.A.guards = some []) (hr : Room k X.A) (tk : Takes X Wx) (hg : Gl X x) (hm : X.mg x = some (.ref f)) (hk : PySem.W.keepIn X.K (.ref f) = true) (hb : Binds X.K fd ps [])
    (ha : FA X C Wx (e :: es) fa) (hsp : ∀ (σ : St) (ρ : Fps) (h : Hs) (H : Hp) (ss : List Sl) (vs : List V) (Q : VK), SimH X.K C ρ h H → SlVs X.K C ρ H vs ss → Po X.K X.mg C Wx σ ρ H (relE X.K C) (g ss h) Q → sp vs H Q fun cls d H' => Wx cls d σ H')
    (hdb : (x == ("__debug__" : Str)) = false := by decide) (he : starEach (e :: es) X.env = (false, eval e X.env) :: starEach es X.env := by rfl) (hpl : (backTo pos (starEach es X.env)).any (·.1) = false := by rfl) :
    FE X C Wx (.Call (.Name x p) (e :: es) [] pos) (fun env h => (fa env h).bind fun ss h => g ss h) := by
  refine ⟨fun pins s σ H Q I hh => wpAny_Call_Name_kw (ld_glob I hg hm ?_ hdb)⟩
  have h2 : rd X.K X.mg C Wx (relA X.K C) fa σ H fun vs H1 => sp vs H1 Q fun cls d H' => Wx cls d σ H' := rd.bind (f := fa) (g := fun ss _ h => g ss h) hh fun ρ1 env h1 ss vs H1 S1 E1 r1 P1 => hsp σ ρ1 h1 H1 ss vs Q S1 r1 P1
  refine PySem.W.callWith_K (h₀ := X.base) I.ok.mod.kin hk (thn (ha.run pos pins s σ H _ I h2) ?_) he hpl
  rintro us s1 ⟨vs, H1, I1, r, q⟩
  exact ⟨I1.kIn, run_fnG F hgd hr hb tk I1 r q⟩
theorem fe_call (F : FnG X.prog X.w X.K X.mg X.base (L2.CX X.prog X.w) k f fd ps (spOf X.K X.mg fr io m)) (hgd : X.A.guards = some []) (hr : Room k X.A) (tk : Takes X Wx) (hg : Gl X x) (hm : X.mg x = some (.ref f)) (hk : PySem.W.keepIn X.K (.ref f) = true) (hb : Binds X.K fd ps [])
    (ha : FA X C Wx (e :: es) fa) (hdb : (x == ("__debug__" : Str)) = false := by decide) (he : starEach (e :: es) X.env = (false, eval e X.env) :: starEach es X.env := by rfl) (hpl : (backTo pos (starEach es X.env)).any (·.1) = false := by rfl) :
    FE X C Wx (.Call (.Name x p) (e :: es) [] pos) (eCall m io fr fa) := fe_callG F hgd hr tk hg hm hk hb ha (fun σ ρ h H ss vs Q S r P => sp_call S r P) hdb he hpl
theorem fe_callN (F : FnG X.prog X.w X.K X.mg X.base (L2.CX X.prog X.w) k f fd ps (spOf X.K X.mg true io m)) (hgd : X.A.guards = some []) (hr : Room k X.A) (tk : Takes X Wx) (hg : Gl X x) (hm : X.mg x = some (.ref f)) (hk : PySem.W.keepIn X.K (.ref f) = true) (hb : Binds X.K fd ps [])
    (ha : FA X C Wx (e :: es) fa) (hdb : (x == ("__debug__" : Str)) = false := by decide) (he : starEach (e :: es) X.env = (false, eval e X.env) :: starEach es X.env := by rfl) (hpl : (backTo pos (starEach es X.env)).any (·.1) = false := by rfl) :
    FE X C Wx (.Call (.Name x p) (e :: es) [] pos) (eCallN m io fa) := fe_callG F hgd hr tk hg hm hk hb ha (fun σ ρ h H ss vs Q S r P => sp_callN S r P) hdb he hpl
end
end FL

namespace FL
open PySem PySem.Spec PyProof.Rows L2
/-! ### the end of a law -/
/-- the script alone is tracked: at a, as the object that it is -/
def oneH (a : Addr) (o : Obj) (ns : List Int) : Hp := fun b => if b = a then some (.frz o (.lst (ns.map V.int))) else none
theorem oneH_at (a : Addr) (o : Obj) (ns : List Int) : oneH a o ns a = some (.frz o (.lst (ns.map V.int))) := if_pos rfl
theorem oneH_some {a b : Addr} {o : Obj} {ns : List Int} {u : HO} (e : oneH a o ns b = some u) : b = a ∧ u = .frz o (.lst (ns.map V.int)) := by
  unfold oneH at e
  split at e
  · rename_i hb
    cases e
    exact ⟨hb, rfl⟩
  · cases e
theorem rp_ints {K : PySem.W.Frag} {H : Hp} {M : Ms} : ∀ ns : List Int, RpAll K H M (ns.map V.int) (ns.map PyData.int)
  | [] => .nil
  | n :: r => .cons (.int n) (rp_ints r)
/-- the run of the law from a state in which no more than the script is tracked -/
theorem lawG_core {P : Program} {w : World} {K : PySem.W.Frag} {mg mb : Str → Option Value} {k : Nat} {fa a : Addr} {fd : FuncData} {x : Str} {fr : Bool} {m : Fm} {s : Shared} {vs : List Value} {ns : List Int} {H : Hp} {o : Obj}
    (hs : ∀ b u, H b = some u → b = a ∧ u = .frz o (.lst (ns.map V.int))) (hK : ∀ u, H a = some u → K.lookup a = none) (hq : QL K H (fun _ => False) a (ns.map V.int)) (hok : HOk P w H s.heap)
    (KX : K.In s.heap) (hns : s.heap.Ns mainGlobals mg) (hb : s.heap.Ns builtinsNs mb) (hbb : ∀ x : Str, x ≠ "__name__" → mb x = bootBuiltins x) (hlim : s.heap.NoLimit) (hg : s.gens = #[])
    (ha : s.heap.get? a = some { cls := .type "list", data := .seq vs.toArray }) (hr : Room k callerA)
    (F : ∀ base : Heap, K.In base → base.Ns mainGlobals mg → FnG P w K mg base (L2.CX P w) k fa fd [x] (spOf K mg fr [false] m)) (hbind : ∀ (s : Shared) (u : Value), BindsTo s fd ⟨[u], []⟩ [(x, u)])
    (hm : ∃ h', m [.list (ns.map PyData.int)] [] = .ok (.bool true) h') :
    codeAny (model P w) callerA (.call (.ref fa) ⟨[.ref a], []⟩) (fun r s' => r = .ok (.ret (.bool true)) ∧ OldK s.heap s'.heap ∧ s'.os = s.os ∧ AllBare s'.gens) s := by
  have plain : ∀ {b : Addr} {u : Obj} {es : Array DictEntry} {ep : Nat}, s.heap.get? b = some u → u.data = .dict es ep → H b = none := by
    intro b u es ep e d
    cases q : H b with
    | none => rfl
    | some z =>
      obtain ⟨rfl, _⟩ := hs b z q
      rw [ha] at e
      cases e
      cases (show Data.seq vs.toArray _ = Data.dict es ep from d)
  have nsK : ∀ {b : Addr} {mm : Str → Option Value}, s.heap.Ns b mm → (hidT s.heap H).Ns b mm := by
    rintro b mm ⟨u, es, ep, e, d, r⟩
    exact ⟨u, es, ep, hidT_get e (plain e d), d, r⟩
  have kb : K.In (hidT s.heap H) := by
    intro b u e
    refine hidT_get (KX b u e) ?_
    cases q : H b with
    | none => rfl
    | some z =>
      obtain ⟨rfl, _⟩ := hs b z q
      rw [hK z q] at e
      cases e
  obtain ⟨mc, l1, l2⟩ := hlim
  have md : Mod K mg (hidT s.heap H) := { kin := kb, glob := nsK hns, blt := ⟨mb, nsK hb, hbb⟩, nolimit := ⟨mc, nsK l1, l2⟩ }
  have e0 : Env0 P w K mg (hidT s.heap H) callerA [] s H := { frames := rfl, mod := md, bs := fun b u e => of_hidT e, bsz := Nat.le_of_eq (hidT_size _ _), funs := trivial, frf := fun b z => (nomatch z), hok := hok, bare := .of_eq hg }
  obtain ⟨h', em⟩ := hm
  have sp : spOf K mg fr [false] m [.ref a] H (fun v _ => v = .bl true) fun _ _ _ => False := by
    refine ⟨[], fun _ => False, [.list (ns.map PyData.int)], [], .val (.lst (QL.fewer (fun _ z => ?_) hq) (rp_ints ns)) .nil, by simp, fun _ z => z.elim, ?_⟩
    · rcases z with z | z
      · cases z
      · exact z
    rw [em]
    intro v H' _ _ r _
    cases r
    rfl
  refine codeAny_mono ((F _ kb (nsK hns)).run callerA [] s H ⟨[.ref a], []⟩ [.ref a] [.ref a] _ _ rfl hr e0 (hbind s (.ref a)) (.cons rfl .nil) sp) ?_
  rintro (er | fl) s' hq'
  · obtain ⟨_, _, _, _, _, _, _, _, _, _, _, _, z⟩ := hq'
    exact z.elim
  · cases fl with
    | ret u =>
      obtain ⟨v, H', os, bare, un, hok', r', q⟩ := hq'
      cases (show v = .bl true from q)
      cases (show u = Value.bool true from r')
      refine ⟨rfl, OldK.of_keep fun b ob e => ?_, os, bare⟩
      cases q : H b with
      | none => exact un.keep b ob e q (fun z => nomatch z) (fun z => nomatch z)
      | some z =>
        obtain ⟨_, rfl⟩ := hs b z q
        have e1 := (hok b _ q).1
        rw [e] at e1
        cases e1
        exact (hok' b _ (un.frzs b _ _ q)).1
    | _ => exact False.elim hq'
theorem walkG {l : PySem.W.OpenLaw} {n k : Nat} {q : Program} {loose : List Str} {XP : (Str → Option Value) → Heap → Prop} {YP : World → Heap → Prop} {d : DefRec} {K : Params → PySem.W.Frag} {x : Str} {fr : Bool} {m : Fm}
    (hn : l.most = some n) (hn2 : n ≤ sizeLine) (hdf : d.params.defaults = []) (hr : Room k callerA) (hY : ∀ (w : World) (h : Heap), YP w h → (K w.params).In h)
    (F : ∀ (w : World) (mg : Str → Option Value) (fa : Addr) (h : Heap), (K w.params).In h → h.Ns mainGlobals mg → mg d.name = some (.ref fa) →
      ∃ fd : FuncData, (∀ (s : Shared) (u : Value), BindsTo s fd ⟨[u], []⟩ [(x, u)]) ∧ ∀ base : Heap, (K w.params).In base → base.Ns mainGlobals mg → FnG l.prog w (K w.params) mg base (L2.CX l.prog w) k fa fd [x] (spOf (K w.params) mg fr [false] m))
    (hm : ∀ ns : List Int, ns.length ≤ n → ∃ h', m [.list (ns.map PyData.int)] [] = .ok (.bool true) h') : PySem.W.WalkO q loose XP YP l.row.toRowW d [] (fun f vs => PySem.call f vs) := by
  refine Att.attach_call hn hdf ?_
  intro w s0 s mg mb fa o pm cd doc a vs ns G Y ho hd hcd hmg hobj hints hlen hg
  have KX := hY w _ Y
  obtain ⟨fd, hb, hF⟩ := F w mg fa _ KX G.T.g hmg
  have rv := vals_ints hints
  have lenV := hints.length
  have hl : ns.length ≤ sizeLine := Nat.le_trans hlen hn2
  cases hk : (K w.params).lookup a with
  | some u =>
    have e := KX a u hk
    rw [hobj] at e
    cases e
    refine lawG_core (H := fun _ => none) (o := default) (ns := ns) (fun b z e => by cases e) (fun z e => by cases e) (.inr ⟨_, vs.toArray, _, hk, rfl, rfl, rfl, by rw [List.size_toArray, lenV]; exact hl, by simpa using rv⟩) (fun b z e => by cases e) KX G.T.g G.T.b G.T.builtins G.T.nolimit hg hobj hr hF hb (hm ns hlen)
  | none =>
    refine lawG_core (H := oneH a { cls := .type "list", data := .seq vs.toArray } ns) (ns := ns) (fun b z e => oneH_some e) (fun z e => hk) (.inl ⟨.inr ⟨_, oneH_at _ _ _⟩, fun z => z⟩) ?_ KX G.T.g G.T.b G.T.builtins G.T.nolimit hg hobj hr hF hb (hm ns hlen)
    intro b z e
    obtain ⟨rfl, rfl⟩ := oneH_some e
    exact ⟨hobj, by rw [List.length_map]; exact hl, vs, _, rv, hobj⟩
end FL

namespace FL
open PySem PySem.Spec PyProof.Rows L2
/-! ### more primitives -/
def gNeg : Sl → Hs → Option PyData := fun s _ => match s with
  | .val (.int i) => some (.int (-i))
  | _ => none
def gRev : Sl → Hs → Option PyData := fun s h => match s with
  | .val (.tuple ds) => some (.tuple ds.reverse)
  | s => (litems s h).map fun ds => .list ds.reverse
section
variable {prog : Program} {w : World} {A : Around} {E : Value → Shared → Prop} {s : Shared}
theorem applied_back {sl : Addr} {vl vu vk : Value} {n : Nat} {Q : Int × Int × Nat → Shared → Prop} (hs : s.heap.IsSliceOf sl vl vu vk) (pl : IsPart vl none) (pu : IsPart vu none) (pk : IsPart vk (some (-1)))
    (h : Q ((n : Int) - 1, -1, n) s) : wpAny (model prog w) A (Builtin.Slice.sliceApplied (.ref sl) (pure (n : Int))) Q E s := by
  obtain ⟨os, hos, hcs, hds⟩ := id hs
  unfold Builtin.Slice.sliceApplied Builtin.Slice.sliceFields
  refine wpAny_bind (wpAny_bind (wpAny_field hos hds (x := vl) rfl (wpAny_bind (wpAny_field hos hds (x := vu) rfl (wpAny_bind (wpAny_field hos hds (x := vk) rfl (wpAny_pure ?_)))))))
  refine wpAny_bind (HT.slicePart_ pk ?_)
  show wpAny _ _ (if ((-1 : Int) == 0) = true then _ else _) _ _ s
  rw [if_neg (by decide)]
  refine wpAny_bind (HT.slicePart_ pl (wpAny_bind (HT.slicePart_ pu (wpAny_bind (wpAny_pure ?_)))))
  have e : Builtin.Slice.slicePlaces ((n : Int) - 1) (-1) (-1) = n := by
    unfold Builtin.Slice.slicePlaces
    rw [if_neg (by decide), show (- -1 : Int) = 1 from rfl, Int.ediv_one]
    split <;> omega
  show wpAny _ _ (pure ((n : Int) - 1, (-1 : Int), Builtin.Slice.slicePlaces ((n : Int) - 1) (-1) (-1))) _ _ s
  rw [e]
  exact wpAny_pure h
theorem pick_back (xs : List Value) : ((List.range xs.length).filterMap fun (m : Nat) => xs.toArray[(((xs.length : Int) - 1) + (m : Int) * -1).toNat]?) = xs.reverse := by
  have key : ∀ k, k ≤ xs.length → ((List.range k).filterMap fun (m : Nat) => xs.toArray[(((xs.length : Int) - 1) + (m : Int) * -1).toNat]?) = xs.reverse.take k := by
    intro k
    induction k with
    | zero => intro _; simp
    | succ k ih =>
      intro hk
      rw [List.range_succ, List.filterMap_append, ih (by omega), List.take_add_one]
      congr 1
      have e1 : (((xs.length : Int) - 1) + (k : Int) * -1).toNat = xs.length - 1 - k := by omega
      have h2 : xs.length - 1 - k < xs.length := by omega
      rw [List.getElem?_reverse (by omega)]
      simp only [List.filterMap_cons, List.filterMap_nil, e1, List.getElem?_toArray]
      rw [List.getElem?_eq_getElem h2]
      rfl
  rw [key xs.length (Nat.le_refl _)]
  rw [List.take_of_length_le (by simp)]
theorem getItem_tuple_back {t sl : Addr} {items : List Value} {vl vu vk : Value} {Q : Value → Shared → Prop} (ht : IsTup s.heap t items.toArray) (hs : s.heap.IsSliceOf sl vl vu vk) (pl : IsPart vl none) (pu : IsPart vu none) (pk : IsPart vk (some (-1))) (hsz : items.length ≤ sizeLine)
    (h : Q (.ref s.heap.objs.size) { s with heap := s.heap.push { cls := .type "tuple", data := .seq items.reverse.toArray } }) : wpAny (model prog w) A (getItem (.ref t) (.ref sl)) Q E s := by
  obtain ⟨os, hos, hcs, hds⟩ := id hs
  have tys : s.TypeIs (.ref sl) "slice" := ⟨os, hos, hcs⟩
  have sz : sizeOk (.seq items.reverse.toArray) := by
    show items.reverse.toArray.size ≤ sizeLine
    simpa using hsz
  unfold getItem
  try with_reducible refine wpAny_holding ?_
  first | refine wpAny_bind (wpAny_pure ?_) | skip
  refine wpAny_bind (wpAny_sequenceKey ht.typeIs (by decide) ?_)
  refine wpAny_bind (wpAny_callSpecial?_slot (name := Str.ofString "__getitem__") ht.typeIs PyProof.Rows.slot_tuple_getitem (wpAny_call_entry PyProof.Rows.slot_tuple_getitem ht.typeIs entry_tuple_getitem ?_ (args_tuple_getitem _ _)))
  show wpAny _ _ (Builtin.Tuple.tupleItemsOf (.ref t) >>= _) _ _ s
  refine wpAny_bind (tupleItemsOf_ ht (wpAny_bind (wpAny_typeOf tys ?_)))
  rw [if_pos (by decide)]
  refine wpAny_bind ?_
  rw [List.size_toArray]
  refine applied_back hs pl pu pk ?_
  have no : ¬ ((((items.length : Int) - 1) == 0 && (-1 : Int) == 1 && items.length == items.toArray.size) = true) := by simp
  show wpAny _ _ (if ((((items.length : Int) - 1) == 0 && (-1 : Int) == 1 && items.length == items.toArray.size) = true) then _ else _) _ _ s
  rw [if_neg no, pick_back]
  first
    | exact wpAny_bind (m := Builtin.Tuple.tupleExact _) (wpAny_newObj_type (wpAny_pure ⟨_, rfl, wpAny_pure h⟩) sz)
    | exact wpAny_bind (m := Builtin.Tuple.tupleExact _) (wpAny_newObj_type (wpAny_bind (wpAny_pure (wpAny_pure ⟨_, rfl, wpAny_pure h⟩))) sz)
    | exact wpAny_bind (wpAny_bind (m := Builtin.Tuple.tupleExact _) (wpAny_newObj_type (wpAny_pure (wpAny_pure ⟨_, rfl, wpAny_pure h⟩)) sz))
    | exact wpAny_bind (wpAny_bind (m := Builtin.Tuple.tupleExact _) (wpAny_newObj_type (wpAny_pure ⟨_, rfl, wpAny_pure h⟩) sz))
end
section
variable {X : Cx} {C : Fc} {Wx : WX} {e : Expr} {f : Ev} {k : Nat} {p1 p2 p3 pos : Pos}
theorem u_neg : UnR X (unaryOp .USub) (rd1 X.K C gNeg) := UnR.imp un_neg fun x H Q ⟨ρ, h, s, d, S, r, e, k⟩ => by
  unfold gNeg at e
  split at e
  · rename_i i
    cases (show Rp X.K H (Mo C ρ) x (.int i) from r)
    cases e
    exact ⟨i, rfl, k _ H (Ex.refl _ _ _) S (.int _)⟩
  · cases e
/-- x[::-1] of a tuple -/
def tRevT (K : PySem.W.Frag) (te : TE) : TE := fun σ H Q => te σ H fun x H1 => ∃ a xs, x = .ref a ∧ SqT K H1 a xs ∧ ∀ p, H1 p = none → Q (.ref p) (upd H1 p (.tup xs.reverse))
theorem pe_revT {te : TE} (he : PE X e te) : PE X (.Subscript e (.Slice none none (some (.UnaryOp .USub (.Constant (.int 1) k p1) p2)) p3) pos) (tRevT X.K te) := by
  constructor
  intro pins s σ H Q I h
  refine Subscript_ (thn (he.run pins s σ H _ I h) ?_)
  rintro v s1 ⟨x, H1, I1, r1, a, xs, rfl, hx, q⟩
  cases r1
  have st : PO X (some (.UnaryOp .USub (.Constant (.int 1) k p1) p2)) (tPart (tUn (rU fun i => .int (-i)) (tC (.int 1)))) := po_some (pe_un un_neg pe_int)
  refine wpAny_Slice (thn (po_none.run pins s1 σ H1 (fun o H2 => o = none ∧ H2 = H1) I1 ⟨rfl, rfl⟩) ?_)
  rintro vl s2 ⟨l, H2, I2, pl, rfl, rfl⟩
  refine thn (po_none.run pins s2 σ _ (fun o H3 => o = none ∧ H3 = H2) I2 ⟨rfl, rfl⟩) ?_
  rintro vu s3 ⟨u, H3, I3, pu, rfl, rfl⟩
  refine thn (st.run pins s3 σ _ (fun o H4 => o = some (-1) ∧ H4 = H3) I3 ⟨1, rfl, -1, rfl, rfl, rfl⟩) ?_
  rintro vs s4 ⟨o, H4, I4, ps, rfl, rfl⟩
  have I5 : Inv X pins σ H4 { s4 with heap := s4.heap.push { cls := .type "slice", data := .fields #[vl, vu, vs] } } := I4.kept (t' := s4.toks) fun b ob q => Heap.get?_push_of_some _ q
  obtain ⟨its, r, ht, hz⟩ := I5.tuple hx
  have hlen := r.length
  show wpAny (model X.prog X.w) X.A (subscriptTail e _ (.ref a) (.ref s4.heap.objs.size)) (EP X pins σ Q) X.xe { s4 with heap := s4.heap.push { cls := .type "slice", data := .fields #[vl, vu, vs] } }
  refine tail_any (ops := [.ref a, .ref s4.heap.objs.size]) ht.typeIs (PyProof.Rows.slot_tuple_getitem.lookup) ?_ (by with_unfolding_all rfl)
  refine getItem_tuple_back ht (Heap.IsSliceOf.new _ vl vu vs) pl pu ps (by omega) ?_
  exact ⟨.ref _, _, I5.laid (t' := s4.toks) (o := .tup xs.reverse) (fun b ob q => Heap.get?_push_of_some _ q) (Nat.le_refl _) ⟨by rw [List.length_reverse]; exact hz, _, r.reverse, ⟨_, Heap.get?_push_size _ rfl, rfl, _, rfl⟩⟩, rfl, q _ (I5.hok.fresh (Nat.le_refl _))⟩
theorem PE.two {t t' u : TE} (h : PE X e t) (h' : PE X e t') (i : ∀ σ H Q, u σ H Q → t σ H Q ∨ t' σ H Q) : PE X e u := ⟨fun pins s σ H Q I q => by
  rcases i σ H Q q with z | z
  · exact h.run pins s σ H Q I z
  · exact h'.run pins s σ H Q I z⟩
theorem fe_rev (he : FE X C Wx e f) : FE X C Wx (.Subscript e (.Slice none none (some (.UnaryOp .USub (.Constant (.int 1) k p1) p2)) p3) pos) (cUn gRev f) := by
  refine PE.two (pe_revT he) (pe_revL he) fun σ H Q p => ?_
  obtain ⟨ρ, env, h, S, E, P⟩ := id p
  have P' : Po X.K X.mg C Wx σ ρ H (relE X.K C) ((f env h).bind fun s h => .give (gRev s h) h) Q := P
  cases q : f env h with
  | bad => rw [q] at P'; exact P'.elim
  | err y h1 => rw [q] at P'; exact .inl ⟨ρ, env, h, S, E, by rw [q]; exact P'⟩
  | ok s h1 =>
    rw [q] at P'
    by_cases ht : ∃ ds, s = .val (.tuple ds)
    · obtain ⟨ds, rfl⟩ := ht
      refine .inl ⟨ρ, env, h, S, E, ?_⟩
      rw [q]
      intro ρ1 v H1 x1 S1 r1
      cases (show Rp X.K H1 (Mo C ρ1) v (.tuple ds) from r1) with
      | tup qq ra => exact ⟨_, _, rfl, qq.sq, fun p hp => P' ρ1 _ _ (x1.trans (Ex.laid S1 hp)) (S1.laid hp) (Rp.newTup S1 hp ra.rev)⟩
    · refine .inr ⟨ρ, env, h, S, E, ?_⟩
      rw [q]
      intro ρ1 v H1 x1 S1 r1
      have eg : gRev s h1 = (litems s h1).map fun ds => .list ds.reverse := by
        unfold gRev
        split
        · exact absurd ⟨_, rfl⟩ ht
        · rfl
      obtain ⟨d, e1, kk⟩ := (Po.ex x1 P').given
      rw [eg] at e1
      obtain ⟨ds, e2, rfl⟩ := map_some e1
      obtain ⟨a, vs, rfl, sq, ra⟩ := litems_rel S1 r1 e2
      exact ⟨a, vs, rfl, sq, fun p hp => kk _ _ (Ex.laid S1 hp) (S1.laid hp) (Rp.newLst S1 hp ra.rev)⟩
end
end FL

namespace FL
open PySem PySem.Spec PyProof.Rows L2
/-! ### reckoning a mirror -/
section
variable {env e : En} {h h' : Hs} {f g f1 f2 f3 : Ev} {a : Av} {s t u : Sl} {ss : List Sl} {c d : Tv} {p q : Sv} {x : PyData} {y : Exn}
@[simp] theorem v_bind {α β : Type} {z : α} {k : α → Hs → Rz β} : (Rz.ok z h).bind k = k z h := id rfl
@[simp] theorem v_bindE {α β : Type} {k : α → Hs → Rz β} : (Rz.err y h : Rz α).bind k = .err y h := id rfl
@[simp] theorem v_bindB {α β : Type} {k : α → Hs → Rz β} : (Rz.bad : Rz α).bind k = .bad := id rfl
@[simp] theorem v_fl {α : Type} {z : α} {k : α → Hs → Fl} : (Rz.ok z h).fl env k = k z h := id rfl
@[simp] theorem v_flE {α : Type} {k : α → Hs → Fl} : (Rz.err y h : Rz α).fl env k = .err y env h := id rfl
@[simp] theorem v_flB {α : Type} {k : α → Hs → Fl} : (Rz.bad : Rz α).fl env k = .bad := id rfl
@[simp] theorem v_give : Rz.give (some x) h = .ok (.val x) h := id rfl
@[simp] theorem v_truth {b : Bool} : Rz.truth (.val (.bool b)) h = .ok b h := id rfl
def slot? (o : Option (Option Sl)) (h : Hs) : Rz Sl := match o with
  | some (some s) => .ok s h
  | _ => .bad
@[simp] theorem v_slot : slot? (some (some s)) h = .ok s h := id rfl
@[simp] theorem v_var {i : Nat} : eVar i env h = slot? env[i]? h := id rfl
@[simp] theorem v_k : eK x env h = .ok (.val x) h := id rfl
@[simp] theorem v_bin {g : G2} : cBin g f1 f2 env h = (f1 env h).bind fun s h => (f2 env h).bind fun t h => .give (g s t h) h := id rfl
@[simp] theorem v_un {g : Sl → Hs → Option PyData} : cUn g f env h = (f env h).bind fun s h => .give (g s h) h := id rfl
@[simp] theorem v_cb {g : GL} : cCB g a env h = (a env h).bind fun ss h => .give (g ss h) h := id rfl
@[simp] theorem v_tv : tV f env h = (f env h).bind fun s h => .truth s h := id rfl
@[simp] theorem v_tno : tNo c env h = (c env h).bind fun b h => .ok (!b) h := id rfl
@[simp] theorem v_tan : tAn c d env h = (c env h).bind fun b h => if b = true then d env h else .ok false h := id rfl
@[simp] theorem v_tor : tOr_ c d env h = (c env h).bind fun b h => if b = true then .ok true h else d env h := id rfl
@[simp] theorem v_tt : tTrue env h = .ok true h := id rfl
def and? (s : Sl) (h : Hs) (r : Rz Sl) : Rz Sl := match s with
  | .val (.bool true) => r
  | .val (.bool false) => .ok (.val (.bool false)) h
  | _ => .bad
def or? (s : Sl) (h : Hs) (r : Rz Sl) : Rz Sl := match s with
  | .val (.bool true) => .ok (.val (.bool true)) h
  | .val (.bool false) => r
  | _ => .bad
def not? (s : Sl) (h : Hs) : Rz Sl := match s with
  | .val (.bool b) => .ok (.val (.bool (!b))) h
  | _ => .bad
@[simp] theorem v_andT {r : Rz Sl} : and? (.val (.bool true)) h r = r := id rfl
@[simp] theorem v_andF {r : Rz Sl} : and? (.val (.bool false)) h r = .ok (.val (.bool false)) h := id rfl
@[simp] theorem v_orT {r : Rz Sl} : or? (.val (.bool true)) h r = .ok (.val (.bool true)) h := id rfl
@[simp] theorem v_orF {r : Rz Sl} : or? (.val (.bool false)) h r = r := id rfl
theorem v_andB {b : Bool} {r : Rz Sl} : and? (.val (.bool b)) h r = if b = true then r else .ok (.val (.bool false)) h := by cases b <;> rfl
theorem v_orB {b : Bool} {r : Rz Sl} : or? (.val (.bool b)) h r = if b = true then .ok (.val (.bool true)) h else r := by cases b <;> rfl
/-- where both sides are reckoned -/
@[simp] theorem v_andO {b c : Bool} : and? (.val (.bool b)) h (.ok (.val (.bool c)) h) = .ok (.val (.bool (b && c))) h := by cases b <;> rfl
@[simp] theorem v_orO {b c : Bool} : or? (.val (.bool b)) h (.ok (.val (.bool c)) h) = .ok (.val (.bool (b || c))) h := by cases b <;> rfl
@[simp] theorem v_notB {b : Bool} : not? (.val (.bool b)) h = .ok (.val (.bool (!b))) h := id rfl
@[simp] theorem v_and : eAnd f g env h = (f env h).bind fun s h => and? s h (g env h) := by
  unfold eAnd and?; rfl
@[simp] theorem v_or : eOr f g env h = (f env h).bind fun s h => or? s h (g env h) := by
  unfold eOr or?; rfl
@[simp] theorem v_not : eNot f env h = (f env h).bind fun s h => not? s h := by
  unfold eNot; congr
@[simp] theorem v_if : eIf c f g env h = (c env h).bind fun b h => if b = true then f env h else g env h := id rfl
def chain? (o : Option PyData) (h : Hs) (r : Rz Sl) : Rz Sl := match o with
  | some (.bool true) => r
  | some (.bool false) => .ok (.val (.bool false)) h
  | _ => .bad
@[simp] theorem v_chainT {r : Rz Sl} : chain? (some (.bool true)) h r = r := id rfl
@[simp] theorem v_chainF {r : Rz Sl} : chain? (some (.bool false)) h r = .ok (.val (.bool false)) h := id rfl
@[simp] theorem v_chainO {b c : Bool} : chain? (some (.bool b)) h (.ok (.val (.bool c)) h) = .ok (.val (.bool (b && c))) h := by cases b <;> rfl
@[simp] theorem v_chain {g1 g2 : G2} : eChain g1 g2 f1 f2 f3 env h = (f1 env h).bind fun s h => (f2 env h).bind fun t h => chain? (g1 s t h) h ((f3 env h).bind fun u h => .give (g2 t u h) h) := by
  unfold eChain chain?; rfl
@[simp] theorem v_anil : aNil env h = .ok [] h := id rfl
@[simp] theorem v_acons : aCons f a env h = (f env h).bind fun s h => (a env h).bind fun ss h => .ok (s :: ss) h := id rfl
@[simp] theorem v_valsN : vals? [] = some [] := id rfl
@[simp] theorem v_valsC : vals? (.val x :: ss) = (vals? ss).map (x :: ·) := id rfl
def line? (n : Nat) (z : PyData) : Option PyData := if lineOk n then some z else none
theorem v_line {n : Nat} {z : PyData} (hn : n ≤ 16777216) : line? n z = some z := by unfold line? lineOk; rw [if_pos (decide_eq_true hn)]
@[simp] theorem v_tup : eTup a env h = (a env h).bind fun ss h => .give ((vals? ss).bind fun ds => line? ds.length (.tuple ds)) h := id rfl
@[simp] theorem v_lst : eLst a env h = (a env h).bind fun ss h => .give ((vals? ss).bind fun ds => line? ds.length (.list ds)) h := id rfl
def new? (o : Option (List PyData)) (h : Hs) : Rz Sl := match o with
  | some ds => if lineOk ds.length then .ok (.loc h.length) (h ++ [.lst ds]) else .bad
  | none => .bad
theorem v_new1 {ds : List PyData} (hn : ds.length ≤ 16777216) : new? (some ds) h = .ok (.loc h.length) (h ++ [.lst ds]) := by unfold new? lineOk; dsimp only; rw [if_pos (decide_eq_true hn)]
@[simp] theorem v_new : eNew a env h = (a env h).bind fun ss h => new? (vals? ss) h := by unfold eNew new?; congr
/-! ### primitives -/
@[simp] theorem v_gI {k : Int → Int → Option PyData} {i j : Int} : gI k (.val (.int i)) (.val (.int j)) h = k i j := id rfl
@[simp] theorem v_fAdd {i j : Int} : fAdd i j = some (.int (i + j)) := id rfl
@[simp] theorem v_fSub {i j : Int} : fSub i j = some (.int (i - j)) := id rfl
@[simp] theorem v_fLt {i j : Int} : fLt i j = some (.bool (decide (i < j))) := id rfl
@[simp] theorem v_fLe {i j : Int} : fLe i j = some (.bool (decide (i ≤ j))) := id rfl
@[simp] theorem v_fGt {i j : Int} : fGt i j = some (.bool (decide (j < i))) := id rfl
@[simp] theorem v_fGe {i j : Int} : fGe i j = some (.bool (decide (j ≤ i))) := id rfl
theorem v_fMulL {i j : Int} (h1 : -18446744073709551616 < i) (h2 : i < 18446744073709551616) : fMul i j = some (.int (i * j)) := by unfold fMul; rw [if_pos (Or.inl ⟨h1, h2⟩)]
theorem v_fMulR {i j : Int} (h1 : -18446744073709551616 < j) (h2 : j < 18446744073709551616) : fMul i j = some (.int (i * j)) := by unfold fMul; rw [if_pos (Or.inr ⟨h1, h2⟩)]
theorem v_fMod {i j : Int} (h1 : 0 < j) : fMod i j = some (.int (i % j)) := by unfold fMod; rw [if_pos h1]
theorem v_fDiv {i j : Int} (h1 : 0 < j) (h2 : j < 1073741824) : fDiv i j = some (.int (i / j)) := by unfold fDiv; rw [if_pos ⟨h1, h2⟩]
@[simp] theorem v_isaI {c : String} {i : Int} : gIsa c (.val (.int i)) h = some (.bool (isaN c "int")) := id rfl
@[simp] theorem v_isaB {c : String} {i : Bool} : gIsa c (.val (.bool i)) h = some (.bool (isaN c "bool")) := id rfl
@[simp] theorem v_isaS {c : String} {i : PySem.Str} : gIsa c (.val (.str i)) h = some (.bool (isaN c "str")) := id rfl
@[simp] theorem v_isaN {c : String} : gIsa c (.val .none) h = some (.bool (isaN c "NoneType")) := id rfl
@[simp] theorem v_isaT {c : String} {ds : List PyData} : gIsa c (.val (.tuple ds)) h = some (.bool (isaN c "tuple")) := id rfl
@[simp] theorem v_isaL {c : String} {ds : List PyData} : gIsa c (.val (.list ds)) h = some (.bool (isaN c "list")) := id rfl
@[simp] theorem v_isa1 : isaN "int" "int" = true := by decide
@[simp] theorem v_isa2 : isaN "bool" "int" = false := by decide
@[simp] theorem v_isa3 : isaN "tuple" "int" = false := by decide
@[simp] theorem v_isa4 : isaN "int" "bool" = true := by decide
@[simp] theorem v_isa5 : isaN "bool" "bool" = true := by decide
@[simp] theorem v_isa6 : isaN "tuple" "tuple" = true := by decide
@[simp] theorem v_isa7 : isaN "tuple" "list" = false := by decide
@[simp] theorem v_isa8 : isaN "tuple" "str" = false := by decide
@[simp] theorem v_isa9 : isaN "tuple" "NoneType" = false := by decide
@[simp] theorem v_isa10 : isaN "tuple" "bool" = false := by decide
@[simp] theorem v_isa11 : isaN "int" "tuple" = false := by decide
@[simp] theorem v_isa12 : isaN "int" "list" = false := by decide
@[simp] theorem v_isa13 : isaN "int" "str" = false := by decide
@[simp] theorem v_isa14 : isaN "int" "NoneType" = false := by decide
@[simp] theorem v_isa15 : isaN "list" "list" = true := by decide
@[simp] theorem v_isa16 : isaN "list" "tuple" = false := by decide
@[simp] theorem v_isa17 : isaN "str" "str" = true := by decide
@[simp] theorem v_itT {ds : List PyData} : items (.val (.tuple ds)) h = some ds := id rfl
@[simp] theorem v_itL {ds : List PyData} : items (.val (.list ds)) h = some ds := id rfl
@[simp] theorem v_liL {ds : List PyData} : litems (.val (.list ds)) h = some ds := id rfl
def obL (o : Option Ob) : Option (List PyData) := match o with
  | some (.lst ds) => some ds
  | _ => none
@[simp] theorem v_obL {ds : List PyData} : obL (some (.lst ds)) = some ds := id rfl
@[simp] theorem v_itO {n : Nat} : items (.loc n) h = obL h[n]? := by unfold items obL; rfl
@[simp] theorem v_liO {n : Nat} : litems (.loc n) h = obL h[n]? := by unfold litems obL; rfl
@[simp] theorem v_datV : dat (.val x) h = some x := id rfl
@[simp] theorem v_datO {n : Nat} : dat (.loc n) h = (obL h[n]?).map PyData.list := by
  show (match h[n]? with | some (.lst ds) => some (PyData.list ds) | _ => none) = _
  cases h[n]? with
  | none => rfl
  | some o => cases o <;> rfl
@[simp] theorem v_eqI {i j : Int} : gEq (.val (.int i)) (.val (.int j)) h = some (.bool (decide (i = j))) := by
  show some (PyData.bool (i == j)) = _
  by_cases q : i = j <;> simp [q]
@[simp] theorem v_neI {i j : Int} : gNe (.val (.int i)) (.val (.int j)) h = some (.bool (!decide (i = j))) := by
  show some (PyData.bool (!(i == j))) = _
  by_cases q : i = j <;> simp [q]
def ix? (o : Option (List PyData)) (t : Sl) : Option PyData := match o, t with
  | some ds, .val (.int i) => atI ds i
  | _, _ => none
@[simp] theorem v_ix : gIx s t h = ix? (items s h) t := by unfold gIx ix?; rfl
@[simp] theorem v_ix1 {ds : List PyData} {i : Int} : ix? (some ds) (.val (.int i)) = atI ds i := id rfl
@[simp] theorem v_lix : lix s t h = ix? (litems s h) t := by unfold lix ix?; rfl
theorem v_atN {ds : List PyData} {n : Nat} {i : Int} (e : i = (n : Int)) : atI ds i = ds[n]? := by
  subst e
  unfold atI ixN
  rw [if_pos (Int.natCast_nonneg n)]
  by_cases q : (n : Int) < ds.length
  · rw [if_pos q]; rfl
  · rw [if_neg q, List.getElem?_eq_none (by omega)]; rfl
@[simp] theorem v_at0 {ds : List PyData} : atI ds 0 = ds[0]? := v_atN rfl
@[simp] theorem v_at1 {ds : List PyData} : atI ds 1 = ds[1]? := v_atN rfl
@[simp] theorem v_at2 {ds : List PyData} : atI ds 2 = ds[2]? := v_atN rfl
@[simp] theorem v_at3 {ds : List PyData} : atI ds 3 = ds[3]? := v_atN rfl
@[simp] theorem v_atC {ds : List PyData} {n : Nat} : atI ds (n : Int) = ds[n]? := v_atN rfl
@[simp] theorem v_len : gLen [s] h = (items s h).map fun ds => .int ds.length := id rfl
@[simp] theorem v_all : gAll [s] h = ((litems s h).bind bools?).map fun bs => .bool (bs.all id) := id rfl
@[simp] theorem v_any : gAny [s] h = ((litems s h).bind bools?).map fun bs => .bool (bs.any id) := id rfl
@[simp] theorem v_sum : gSum [s] h = ((litems s h).bind ints?).map fun bs => .int bs.sum := id rfl
@[simp] theorem v_intI {i : Int} : gInt [.val (.int i)] h = some (.int i) := id rfl
@[simp] theorem v_intB {b : Bool} : gInt [.val (.bool b)] h = some (.int (if b = true then 1 else 0)) := id rfl
@[simp] theorem v_max2 {i j : Int} : gMax2 [.val (.int i), .val (.int j)] h = some (.int (max i j)) := by
  show some (PyData.int (if j > i then j else i)) = _
  congr 2; omega
@[simp] theorem v_min2 {i j : Int} : gMin2 [.val (.int i), .val (.int j)] h = some (.int (min i j)) := by
  show some (PyData.int (if j < i then j else i)) = _
  congr 2; omega
@[simp] theorem v_tuple : gTuple [s] h = (items s h).map fun ds => .tuple ds := id rfl
@[simp] theorem v_list : gList [s] h = (items s h).map fun ds => .list ds := id rfl
@[simp] theorem v_revT {ds : List PyData} : gRev (.val (.tuple ds)) h = some (.tuple ds.reverse) := id rfl
theorem bools_map {α : Type} (f : α → Bool) : ∀ xs : List α, bools? (xs.map fun x => .bool (f x)) = some (xs.map f)
  | [] => rfl
  | x :: xs => by show (bools? (xs.map fun x => .bool (f x))).map (f x :: ·) = _; rw [bools_map f xs]; rfl
theorem ints_map {α : Type} (f : α → Int) : ∀ xs : List α, ints? (xs.map fun x => .int (f x)) = some (xs.map f)
  | [] => rfl
  | x :: xs => by show (ints? (xs.map fun x => .int (f x))).map (f x :: ·) = _; rw [ints_map f xs]; rfl
@[simp] theorem v_onone : oNone env h = .ok none h := id rfl
def osome? (s : Sl) (h : Hs) : Rz (Option Int) := match s with
  | .val (.int i) => .ok (some i) h
  | _ => .bad
@[simp] theorem v_osome1 {i : Int} : osome? (.val (.int i)) h = .ok (some i) h := id rfl
@[simp] theorem v_osome : oSome f env h = (f env h).bind fun s h => osome? s h := by unfold oSome; congr
@[simp] theorem v_sl {lo hi : En → Hs → Rz (Option Int)} : eSl f lo hi env h = (f env h).bind fun s h => (lo env h).bind fun l h => (hi env h).bind fun u h => .give (gCut s l u h) h := id rfl
@[simp] theorem v_cutT {ds : List PyData} {lo hi : Option Int} : gCut (.val (.tuple ds)) lo hi h = some (.tuple (cutD ds lo hi)) := id rfl
@[simp] theorem v_cutL {ds : List PyData} {lo hi : Option Int} : gCut (.val (.list ds)) lo hi h = some (.list (cutD ds lo hi)) := id rfl
/-! ### statements -/
def Fl.seq (r : Fl) (q : Sv) : Fl := match r with
  | .next e h => q e h
  | r => r
@[simp] theorem v_seq : sSeq p q env h = (p env h).seq q := by unfold sSeq Fl.seq; cases p env h <;> rfl
@[simp] theorem v_seqN : (Fl.next e h).seq q = q e h := id rfl
@[simp] theorem v_seqR : (Fl.ret s h).seq q = .ret s h := id rfl
@[simp] theorem v_nil : sNil env h = .next env h := id rfl
@[simp] theorem v_exp : sExp f env h = (f env h).fl env fun _ h => .next env h := id rfl
@[simp] theorem v_ret : sRet f env h = (f env h).fl env fun s h => .ret s h := id rfl
@[simp] theorem v_sif : sIf c p q env h = (c env h).fl env fun b h => if b = true then p env h else q env h := id rfl
@[simp] theorem v_set {i : Nat} : sSet i f env h = (f env h).fl env fun s h => .next (env.set i (some s)) h := id rfl
def asg? (tg : Tg) (s : Sl) (env : En) (h : Hs) : Fl := match s with
  | .val d => match tg.put d env with
    | some e => .next e h
    | none => .bad
  | .loc _ => .bad
@[simp] theorem v_asg {tg : Tg} : sAsg f tg env h = (f env h).fl env fun s h => asg? tg s env h := by unfold sAsg; congr
theorem v_asg1 {tg : Tg} (w : tg.put x env = some e) : asg? tg (.val x) env h = .next e h := by unfold asg?; dsimp only; rw [w]
@[simp] theorem v_asg2 {ts : List Tg} {ds : List PyData} : asg? (.tp ts) (.val (.tuple ds)) env h = match Tg.puts ts ds env with
    | some e => .next e h
    | none => .bad := by unfold asg?; simp only [Tg.put]
@[simp] theorem v_putN {i : Nat} : Tg.put (.nm i) x env = some (env.set i (some (.val x))) := by simp only [Tg.put]
@[simp] theorem v_putT {ts : List Tg} {ds : List PyData} : Tg.put (.tp ts) (.tuple ds) env = Tg.puts ts ds env := by simp only [Tg.put]
@[simp] theorem v_putsN : Tg.puts [] [] env = some env := by simp only [Tg.puts]
@[simp] theorem v_putsC {i : Nat} {ts : List Tg} {ds : List PyData} : Tg.puts (.nm i :: ts) (x :: ds) env = Tg.puts ts ds (env.set i (some (.val x))) := by
  rw [Tg.puts]
  simp only [Tg.put]
def par? (i j : Nat) (ss : List Sl) (env : En) (h : Hs) : Fl := match ss with
  | [s, t] => .next ((env.set i (some s)).set j (some t)) h
  | _ => .bad
@[simp] theorem v_par1 {i j : Nat} : par? i j [s, t] env h = .next ((env.set i (some s)).set j (some t)) h := id rfl
@[simp] theorem v_par {i j : Nat} : sPar i j a env h = (a env h).fl env fun ss h => par? i j ss env h := by unfold sPar; congr
/-! ### loops, lists of one's own, calls -/
def seq? (s : Sl) (h : Hs) : Rz (List PyData) := match s with
  | .val (.list ds) => .ok ds h
  | .val (.tuple ds) => .ok ds h
  | _ => .bad
@[simp] theorem v_seqL {ds : List PyData} : seq? (.val (.list ds)) h = .ok ds h := id rfl
@[simp] theorem v_seqT {ds : List PyData} : seq? (.val (.tuple ds)) h = .ok ds h := id rfl
@[simp] theorem v_src : srcSeq f env h = (f env h).bind fun s h => seq? s h := by unfold srcSeq; congr
def rng? (ss : List Sl) (h : Hs) : Rz (List PyData) := match ss with
  | [.val (.int j)] => if rngOk j then .ok (upTo 0 j.toNat) h else .bad
  | _ => .bad
@[simp] theorem v_rng : srcRng1 a env h = (a env h).bind fun ss h => rng? ss h := by unfold srcRng1; congr
theorem v_rng1 {j : Int} (h1 : -4611686018427387904 ≤ j) (h2 : j < 4611686018427387904) : rng? [.val (.int j)] h = .ok (upTo 0 j.toNat) h := by
  show (if rngOk j then _ else _) = _
  unfold rngOk
  rw [if_pos (decide_eq_true ⟨h1, h2⟩)]
@[simp] theorem v_for {src : En → Hs → Rz (List PyData)} {tg : Tg} : sFor src tg p env h = (src env h).fl env fun ds h => loopF tg p h.length ds env h := id rfl
@[simp] theorem v_comp {src : En → Hs → Rz (List PyData)} {tg : Tg} {vs : List Nat} : eComp src tg vs c f env h = (src env h).bind fun ds h => (compL tg c f (wipeE env vs) ds [] h).bind fun out h => .ok (.val (.list out)) h := id rfl
@[simp] theorem v_compN {src : En → Hs → Rz (List PyData)} {tg : Tg} {vs : List Nat} : eCompN src tg vs c f env h = (src env h).bind fun ds h => (compL tg c f (wipeE env vs) ds [] h).bind fun out h => .ok (.loc h.length) (h ++ [.lst out]) := id rfl
@[simp] theorem v_wipe0 : wipeE env [] = env := id rfl
@[simp] theorem v_wipe {i : Nat} {vs : List Nat} : wipeE env (i :: vs) = (wipeE env vs).set i none := id rfl
/-- a comprehension that takes each thing -/
theorem comp_map {α : Type} {tg : Tg} {E : α → En} {dd : α → PyData} {w : α → PyData} (hp : ∀ z, tg.put (dd z) env = some (E z)) (hc : ∀ z, c (E z) h = .ok true h) :
    ∀ (xs : List α) (acc : List PyData), (∀ z ∈ xs, f (E z) h = .ok (.val (w z)) h) → acc.length + xs.length ≤ 16777216 → compL tg c f env (xs.map dd) acc h = .ok (acc ++ xs.map w) h
  | [], acc, _, _ => by simp [compL]
  | z :: xs, acc, hf, hl => by
    rw [List.map_cons]
    unfold compL
    rw [hp z]
    dsimp only
    rw [hc z]
    dsimp only
    rw [hf z List.mem_cons_self]
    dsimp only
    have hl' : acc.length + xs.length + 1 ≤ 16777216 := hl
    rw [if_pos (by omega), comp_map hp hc xs (acc ++ [w z]) (fun y m => hf y (List.mem_cons_of_mem _ m)) (by rw [List.length_append, List.length_singleton]; omega)]
    simp
@[simp] theorem v_call {m : Fm} {io : List Bool} {fr : Bool} : eCall m io fr a env h = (a env h).bind fun ss h => callF m io fr ss h := id rfl
/-- a call that is handed data alone -/
theorem call_d {m : Fm} {fr : Bool} {io : List Bool} {ss : List Sl} {ds : List PyData} {z : PyData} (hv : vals? ss = some ds) (hi : io = ss.map fun _ => false) (e : m ds [] = .ok z []) : callF m io fr ss h = .ok (.val z) h := by
  have w : ∀ (ss : List Sl) (ds : List PyData), vals? ss = some ds → splitA (ss.map fun _ => false) ss h = some (ds, [], [], []) := by
    intro ss
    induction ss with
    | nil => intro ds q; cases q; rfl
    | cons s r ih =>
      intro ds q
      cases s with
      | loc n => cases q
      | val d =>
        have q' : (vals? r).map (d :: ·) = some ds := q
        cases q2 : vals? r with
        | none => rw [q2] at q'; cases q'
        | some rs =>
          rw [q2] at q'
          cases q'
          simp only [List.map_cons, splitA, ih rs q2, dat]
  subst hi
  unfold callF
  rw [w ss ds hv]
  dsimp only
  rw [if_pos ⟨rfl, Or.inl rfl⟩, e]
  dsimp only
  rw [if_pos (Or.inl rfl)]
  rfl
@[simp] theorem call1 {m : Fm} {fr : Bool} {x1 : PyData} {z : PyData} (e : m [x1] [] = .ok z []) : callF m [false] fr [.val x1] h = .ok (.val z) h := call_d rfl rfl e
@[simp] theorem call2 {m : Fm} {fr : Bool} {x1 x2 : PyData} {z : PyData} (e : m [x1, x2] [] = .ok z []) : callF m [false, false] fr [.val x1, .val x2] h = .ok (.val z) h := call_d rfl rfl e
@[simp] theorem call3 {m : Fm} {fr : Bool} {x1 x2 x3 : PyData} {z : PyData} (e : m [x1, x2, x3] [] = .ok z []) : callF m [false, false, false] fr [.val x1, .val x2, .val x3] h = .ok (.val z) h := call_d rfl rfl e
@[simp] theorem call4 {m : Fm} {fr : Bool} {x1 x2 x3 x4 : PyData} {z : PyData} (e : m [x1, x2, x3, x4] [] = .ok z []) : callF m [false, false, false, false] fr [.val x1, .val x2, .val x3, .val x4] h = .ok (.val z) h := call_d rfl rfl e
def runD (fr : Bool) (k : Nat) (r : Fl) : Rz PyData := match r with
  | .next _ h => .ok .none (h.take k)
  | .ret s h => outD fr k s h
  | .err x _ h => .err x (h.take k)
  | _ => .bad
@[simp] theorem v_run {fr : Bool} {io : List Bool} {nl : Nat} {ds : List PyData} {os : Hs} : runFn fr io nl p ds os = runD fr os.length (p (mkEnv io ds 0 ++ List.replicate nl none) os) := by
  unfold runFn runD; rfl
@[simp] theorem v_runN {fr : Bool} {k : Nat} : runD fr k (.next e h) = .ok .none (h.take k) := id rfl
@[simp] theorem v_runR {fr : Bool} {k : Nat} : runD fr k (.ret s h) = outD fr k s h := id rfl
@[simp] theorem v_outV {k : Nat} : outD false k (.val x) h = .ok x (h.take k) := by unfold outD; simp
@[simp] theorem v_mkN {ds : List PyData} {k : Nat} : mkEnv [] ds k = [] := id rfl
@[simp] theorem v_mkF {io : List Bool} {ds : List PyData} {k : Nat} : mkEnv (false :: io) (x :: ds) k = some (.val x) :: mkEnv io ds k := id rfl
@[simp] theorem v_mkT {io : List Bool} {ds : List PyData} {k : Nat} : mkEnv (true :: io) ds k = some (.loc k) :: mkEnv io ds (k + 1) := by cases ds <;> rfl
theorem callF_eq {m : Fm} {io : List Bool} {fr : Bool} {ss : List Sl} {ds : List PyData} {ns : List Nat} {os os' : Hs} {vw : List Nat} {z : PyData} (e : splitA io ss h = some (ds, ns, os, vw)) (ha : apartN ns vw = true) (hv : vw = [] ∨ fr = true)
    (em : m ds os = .ok z os') (ho : vw = [] ∨ os'.all obNoL = true) : callF m io fr ss h = .ok (.val z) (putObs ns os' h) := by
  unfold callF
  rw [e]
  dsimp only
  rw [if_pos ⟨ha, hv⟩, em]
  dsimp only
  rw [if_pos ho]
theorem callN_eq {m : Fm} {io : List Bool} {ss : List Sl} {ds ls : List PyData} {ns : List Nat} {os os' : Hs} {vw : List Nat} (e : splitA io ss h = some (ds, ns, os, vw)) (ha : apartN ns vw = true)
    (em : m ds os = .ok (.list ls) os') (ho : os'.all obNoL = true) : callN m io ss h = .ok (.loc h.length) (putObs ns os' h ++ [.lst ls]) := by
  unfold callN
  rw [e]
  dsimp only
  rw [if_pos ha, em]
  dsimp only
  rw [if_pos ho]
@[simp] theorem v_callN {m : Fm} {io : List Bool} : eCallN m io a env h = (a env h).bind fun ss h => callN m io ss h := id rfl
@[simp] theorem v_cutN {n : Nat} : cutE n [] = [] := id rfl
@[simp] theorem v_cut0 {n : Nat} {r : En} : cutE n (none :: r) = none :: cutE n r := id rfl
@[simp] theorem v_cutV {n : Nat} {r : En} : cutE n (some (.val x) :: r) = some (.val x) :: cutE n r := id rfl
@[simp] theorem v_cutO {n k : Nat} {r : En} : cutE n (some (.loc k) :: r) = (if k < n then some (.loc k) else none) :: cutE n r := id rfl
end
end FL

namespace FL
open PySem PySem.Spec PyProof.Rows L2
def b_is_among : Sv := (sRet (eAnd (cUn (gIsa "int") (eVar 0)) (eAnd (eNot (cUn (gIsa "bool") (eVar 0))) (eChain (gI fLe) (gI fLe) (eVar 1) (eVar 0) (eVar 2)))))
def m_is_among : Fm := runFn false [false, false, false] 0 b_is_among
def b_is_road : Sv := (sSeq (sIf (tOr_ (tNo (tV (cUn (gIsa "tuple") (eVar 0)))) (tOr_ (tV (cBin gNe (cCB gLen (aCons (eVar 0) aNil)) (eK (.int 4)))) (tNo (tV (cCB gAll (aCons (eComp (srcSeq (eSl (eVar 0) oNone (oSome (eK (.int 2))))) (.nm 6) [6] tTrue (eCall m_is_among [false, false, false] false (aCons (eVar 6) (aCons (eK (.int 0)) (aCons (cBin (gI fSub) (eVar 1) (eK (.int 1))) aNil))))) aNil)))))) (sRet (eK (.bool false))) sNil)
    (sSeq (sAsg (eVar 0) (.tp [(.nm 2), (.nm 3), (.nm 4), (.nm 5)]))
    (sRet (eAnd (cBin gNe (eVar 2) (eVar 3)) (eAnd (eCall m_is_among [false, false, false] false (aCons (eVar 4) (aCons (eK (.int 1)) (aCons (eK (.int 99)) aNil)))) (eCall m_is_among [false, false, false] false (aCons (eVar 5) (aCons (eK (.int 0)) (aCons (eK (.int 99)) aNil)))))))))
def m_is_road : Fm := runFn false [false, false] 5 b_is_road
def b_is_net : Sv := (sSeq (sIf (tOr_ (tNo (tV (cUn (gIsa "tuple") (eVar 0)))) (tOr_ (tV (cBin gNe (cCB gLen (aCons (eVar 0) aNil)) (eK (.int 2)))) (tNo (tV (eCall m_is_among [false, false, false] false (aCons (cBin gIx (eVar 0) (eK (.int 0))) (aCons (eK (.int 1)) (aCons (eK (.int 10)) aNil)))))))) (sRet (eK (.bool false))) sNil)
    (sSeq (sAsg (eVar 0) (.tp [(.nm 1), (.nm 2)]))
    (sRet (eAnd (cUn (gIsa "tuple") (eVar 2)) (eAnd (cBin (gI fLe) (cCB gLen (aCons (eVar 2) aNil)) (eK (.int 30))) (cCB gAll (aCons (eComp (srcSeq (eVar 2)) (.nm 3) [3] tTrue (eCall m_is_road [false, false] false (aCons (eVar 3) (aCons (eVar 1) aNil)))) aNil)))))))
def m_is_net : Fm := runFn false [false] 3 b_is_net
def b_need_net : Sv := (sIf (tNo (tV (eCall m_is_net [false] false (aCons (eVar 0) aNil)))) sNever sNil)
def m_need_net : Fm := runFn false [false] 0 b_need_net
def b_is_place : Sv := (sRet (eCall m_is_among [false, false, false] false (aCons (eVar 1) (aCons (eK (.int 0)) (aCons (cBin (gI fSub) (cBin gIx (eVar 0) (eK (.int 0))) (eK (.int 1))) aNil)))))
def m_is_place : Fm := runFn false [false, false] 0 b_is_place
def b_need_place : Sv := (sIf (tNo (tV (eCall m_is_place [false, false] false (aCons (eVar 0) (aCons (eVar 1) aNil))))) sNever sNil)
def m_need_place : Fm := runFn false [false, false] 0 b_need_place
def b_need_ends : Sv := (sSeq (sExp (eCall m_need_net [false] false (aCons (eVar 0) aNil)))
    (sSeq (sExp (eCall m_need_place [false, false] false (aCons (eVar 0) (aCons (eVar 1) aNil))))
    (sExp (eCall m_need_place [false, false] false (aCons (eVar 0) (aCons (eVar 2) aNil))))))
def m_need_ends : Fm := runFn false [false, false, false] 0 b_need_ends
def l_next_row_1 : Sv := (sIf (tV (cBin (gI fLe) (eVar 9) (eVar 5))) (sAugIx (gI fAdd) (eVar 6) (eVar 7) (cBin gIx (cBin gIx (eVar 2) (cBin (gI fSub) (eVar 5) (eVar 9))) (eVar 8))) sNil)
def b_next_row : Sv := (sSeq (sAsg (eVar 0) (.tp [(.nm 3), (.nm 4)]))
    (sSeq (sSet 5 (cCB gLen (aCons (eVar 2) aNil)))
    (sSeq (sSet 6 (eCompN (srcRng1 (aCons (eVar 3) aNil)) (.nm 11) [11] tTrue (cCB gInt (aCons (eAnd (cBin gEq (eVar 5) (eK (.int 0))) (cBin gEq (eVar 11) (eVar 1))) aNil))))
    (sSeq (sFor (srcSeq (eVar 4)) (.tp [(.nm 7), (.nm 8), (.nm 9), (.nm 10)]) l_next_row_1)
    (sRet (eVar 6))))))
def m_next_row : Fm := runFn true [false, false, false] 9 b_next_row
def l_rows_to_1 : Sv := (sExp (eMt mAppend (eVar 3) (aCons (eCall m_next_row [false, false, false] true (aCons (eVar 0) (aCons (eVar 1) (aCons (eVar 3) aNil)))) aNil)))
def b_rows_to : Sv := (sSeq (sSet 3 (eNew aNil))
    (sSeq (sWhile 1000000 (tV (cBin (gI fLe) (cCB gLen (aCons (eVar 3) aNil)) (eVar 2))) l_rows_to_1)
    (sRet (eVar 3))))
def m_rows_to : Fm := runFn false [false, false, false] 1 b_rows_to
def b_need_cost : Sv := (sIf (tNo (tV (eCall m_is_among [false, false, false] false (aCons (eVar 0) (aCons (eK (.int 0)) (aCons (eK (.int 600)) aNil)))))) sNever sNil)
def m_need_cost : Fm := runFn false [false] 0 b_need_cost
def b_count_of : Sv := (sSeq (sExp (eCall m_need_ends [false, false, false] false (aCons (eVar 0) (aCons (eVar 1) (aCons (eVar 2) aNil)))))
    (sSeq (sExp (eCall m_need_cost [false] false (aCons (eVar 3) aNil)))
    (sRet (cBin gIx (cBin gIx (eCall m_rows_to [false, false, false] false (aCons (eVar 0) (aCons (eVar 2) (aCons (eVar 3) aNil)))) (eVar 3)) (eVar 1)))))
def m_count_of : Fm := runFn false [false, false, false, false] 0 b_count_of
def b_count_to : Sv := (sSeq (sExp (eCall m_need_ends [false, false, false] false (aCons (eVar 0) (aCons (eVar 1) (aCons (eVar 2) aNil)))))
    (sSeq (sExp (eCall m_need_cost [false] false (aCons (eVar 3) aNil)))
    (sRet (cCB gSum (aCons (eComp (srcSeq (eCall m_rows_to [false, false, false] false (aCons (eVar 0) (aCons (eVar 2) (aCons (eVar 3) aNil))))) (.nm 4) [4] tTrue (cBin gIx (eVar 4) (eVar 1))) aNil)))))
def m_count_to : Fm := runFn false [false, false, false, false] 1 b_count_to
def b__law_cell_at : Sv := (sSeq (sIf (tV (cBin (gI fLt) (eVar 1) (cCB gLen (aCons (eVar 0) aNil)))) (sRet (cBin gIx (eVar 0) (eVar 1))) sNil)
    (sRet (eK (.int 0))))
def m__law_cell_at : Fm := runFn false [false, false] 0 b__law_cell_at
def b__law_state : Sv := (sSeq (sSet 2 (eCall m__law_cell_at [false, false] false (aCons (eVar 0) (aCons (eVar 1) aNil))))
    (sRet (eNew (aCons (cCB gMax2 (aCons (eK (.int 0)) (aCons (cBin (gI fSub) (eVar 2) (cBin (gI fPow) (eK (.int 10)) (eK (.int 18)))) aNil))) (aCons (cBin (gI fMod) (eVar 2) (eK (.int 2147483647))) aNil)))))
def m__law_state : Fm := runFn true [false, false] 1 b__law_state
def b__law_take : Sv := (sSeq (sIf (tV (cBin (gI fGt) (cBin gIx (eVar 0) (eK (.int 0))) (eK (.int 0)))) (sSeq (sSet 2 (cBin (gI fMod) (cBin gIx (eVar 0) (eK (.int 0))) (eVar 1)))
    (sSeq (sPut (eVar 0) (eK (.int 0)) (cBin (gI fDiv) (cBin gIx (eVar 0) (eK (.int 0))) (eVar 1)))
    (sRet (eVar 2)))) sNil)
    (sSeq (sPut (eVar 0) (eK (.int 1)) (cBin (gI fMod) (cBin (gI fAdd) (cBin (gI fMul) (cBin gIx (eVar 0) (eK (.int 1))) (eK (.int 48271))) (eK (.int 29))) (eK (.int 2147483647))))
    (sSeq (sSet 3 (cBin (gI fMod) (cBin (gI fAdd) (cBin (gI fAdd) (cBin (gI fMul) (cBin gIx (eVar 0) (eK (.int 1))) (cBin gIx (eVar 0) (eK (.int 1)))) (cBin (gI fMul) (eK (.int 39373)) (cBin gIx (eVar 0) (eK (.int 1))))) (eK (.int 7))) (eK (.int 2147483629))))
    (sSeq (sSet 3 (cBin (gI fMod) (cBin (gI fAdd) (cBin (gI fMul) (eVar 3) (eVar 3)) (cBin (gI fMul) (eK (.int 16807)) (eVar 3))) (eK (.int 2147483587))))
    (sRet (cBin (gI fMod) (cBin (gI fDiv) (eVar 3) (eK (.int 8))) (eVar 1)))))))
def m__law_take : Fm := runFn false [true, false] 2 b__law_take
def l__law_net_1 : Sv := (sSeq (sSet 6 (cBin gIx (eLst (aCons (eCall m__law_take [true, false] false (aCons (eVar 0) (aCons (eVar 3) aNil))) (aCons (cCB gMin2 (aCons (eVar 5) (aCons (cBin (gI fSub) (eVar 3) (eK (.int 1))) aNil))) aNil))) (eCall m__law_take [true, false] false (aCons (eVar 0) (aCons (eK (.int 2)) aNil)))))
    (sSeq (sSet 7 (cBin (gI fMod) (cBin (gI fAdd) (cBin (gI fAdd) (eVar 6) (eK (.int 1))) (cBin gIx (eLst (aCons (eK (.int 0)) (aCons (eCall m__law_take [true, false] false (aCons (eVar 0) (aCons (cBin (gI fSub) (eVar 3) (eK (.int 1))) aNil))) aNil))) (eCall m__law_take [true, false] false (aCons (eVar 0) (aCons (eK (.int 2)) aNil))))) (eVar 3)))
    (sSeq (sSet 8 (cBin gIx (eLst (aCons (cBin (gI fAdd) (eK (.int 1)) (eCall m__law_take [true, false] false (aCons (eVar 0) (aCons (eK (.int 4)) aNil)))) (aCons (cBin (gI fAdd) (eK (.int 1)) (eCall m__law_take [true, false] false (aCons (eVar 0) (aCons (eK (.int 99)) aNil)))) (aCons (eK (.int 1)) aNil)))) (eCall m__law_take [true, false] false (aCons (eVar 0) (aCons (eK (.int 3)) aNil)))))
    (sSeq (sSet 9 (cBin gIx (eLst (aCons (eCall m__law_take [true, false] false (aCons (eVar 0) (aCons (eK (.int 4)) aNil))) (aCons (eCall m__law_take [true, false] false (aCons (eVar 0) (aCons (eK (.int 100)) aNil))) (aCons (eK (.int 0)) aNil)))) (eCall m__law_take [true, false] false (aCons (eVar 0) (aCons (eK (.int 3)) aNil)))))
    (sExp (eMt mAppend (eVar 4) (aCons (eTup (aCons (eVar 6) (aCons (eVar 7) (aCons (eVar 8) (aCons (eVar 9) aNil))))) aNil)))))))
def b__law_net : Sv := (sSeq (sPar 3 4 (aCons (cBin (gI fAdd) (eK (.int 1)) (eCall m__law_take [true, false] false (aCons (eVar 0) (aCons (eVar 1) aNil)))) (aCons (eNew aNil) aNil)))
    (sSeq (sFor (srcRng1 (aCons (cBin (gI fMul) (eCall m__law_take [true, false] false (aCons (eVar 0) (aCons (cBin (gI fAdd) (eVar 2) (eK (.int 1))) aNil))) (cCB gInt (aCons (cBin (gI fGt) (eVar 3) (eK (.int 1))) aNil))) aNil)) (.nm 5) l__law_net_1)
    (sRet (eTup (aCons (eVar 3) (aCons (cCB gTuple (aCons (eVar 4) aNil)) aNil))))))
def m__law_net : Fm := runFn false [true, false, false] 7 b__law_net
def b__law_ends : Sv := (sSeq (sSet 2 (eCall m__law_take [true, false] false (aCons (eVar 0) (aCons (cBin gIx (eVar 1) (eK (.int 0))) aNil))))
    (sRet (eTup (aCons (eVar 2) (aCons (cBin gIx (eLst (aCons (eVar 2) (aCons (eCall m__law_take [true, false] false (aCons (eVar 0) (aCons (cBin gIx (eVar 1) (eK (.int 0))) aNil))) (aCons (eCall m__law_take [true, false] false (aCons (eVar 0) (aCons (cBin gIx (eVar 1) (eK (.int 0))) aNil))) aNil)))) (eCall m__law_take [true, false] false (aCons (eVar 0) (aCons (eK (.int 3)) aNil)))) aNil)))))
def m__law_ends : Fm := runFn false [true, false] 1 b__law_ends
def l__law_right_1 : Sv := (sSeq (sIf (tAn (tV (cBin gEq (eVar 7) (eVar 1))) (tV (cBin (gI fLe) (eVar 9) (eVar 3)))) (sSet 5 (cBin (gI fAdd) (eVar 5) (eCall m_count_of [false, false, false, false] false (aCons (eVar 0) (aCons (eVar 8) (aCons (eVar 2) (aCons (cBin (gI fSub) (eVar 3) (eVar 9)) aNil))))))) sNil)
    (sIf (tAn (tV (cBin gEq (eVar 8) (eVar 2))) (tV (cBin (gI fLe) (eVar 9) (eVar 3)))) (sSet 6 (cBin (gI fAdd) (eVar 6) (eCall m_count_of [false, false, false, false] false (aCons (eVar 0) (aCons (eVar 1) (aCons (eVar 7) (aCons (cBin (gI fSub) (eVar 3) (eVar 9)) aNil))))))) sNil))
def b__law_right : Sv := (sSeq (sSet 4 (eCall m_count_of [false, false, false, false] false (aCons (eVar 0) (aCons (eVar 1) (aCons (eVar 2) (aCons (eVar 3) aNil))))))
    (sSeq (sPar 5 6 (aCons (cCB gInt (aCons (eAnd (cBin gEq (eVar 3) (eK (.int 0))) (cBin gEq (eVar 1) (eVar 2))) aNil)) (aCons (cCB gInt (aCons (eAnd (cBin gEq (eVar 3) (eK (.int 0))) (cBin gEq (eVar 1) (eVar 2))) aNil)) aNil)))
    (sSeq (sFor (srcSeq (cBin gIx (eVar 0) (eK (.int 1)))) (.tp [(.nm 7), (.nm 8), (.nm 9), (.nm 10)]) l__law_right_1)
    (sSeq (sSet 11 (eTup (aCons (cBin gIx (eVar 0) (eK (.int 0))) (aCons (cCB gTuple (aCons (eComp (srcSeq (cBin gIx (eVar 0) (eK (.int 1)))) (.tp [(.nm 7), (.nm 8), (.nm 9), (.nm 10)]) [7, 8, 9, 10] tTrue (eTup (aCons (eVar 8) (aCons (eVar 7) (aCons (eVar 9) (aCons (eVar 10) aNil)))))) aNil)) aNil))))
    (sSeq (sIf (tV (cBin gNe (eLst (aCons (eVar 4) (aCons (eVar 4) (aCons (eVar 4) aNil)))) (eLst (aCons (eVar 5) (aCons (eVar 6) (aCons (eCall m_count_of [false, false, false, false] false (aCons (eVar 11) (aCons (eVar 2) (aCons (eVar 1) (aCons (eVar 3) aNil))))) aNil)))))) (sRet (eK (.bool false))) sNil)
    (sSeq (sSet 12 (eIf (tV (cBin (gI fGt) (eVar 3) (eK (.int 0)))) (eCall m_count_to [false, false, false, false] false (aCons (eVar 0) (aCons (eVar 1) (aCons (eVar 2) (aCons (cBin (gI fSub) (eVar 3) (eK (.int 1))) aNil))))) (eK (.int 0))))
    (sSeq (sIf (tV (cBin gNe (eCall m_count_of [false, false, false, false] false (aCons (eTup (aCons (cBin gIx (eVar 0) (eK (.int 0))) (aCons (cUn gRev (cBin gIx (eVar 0) (eK (.int 1)))) aNil))) (aCons (eVar 1) (aCons (eVar 2) (aCons (eVar 3) aNil))))) (eVar 4))) (sRet (eK (.bool false))) sNil)
    (sRet (cBin gEq (eCall m_count_to [false, false, false, false] false (aCons (eVar 0) (aCons (eVar 1) (aCons (eVar 2) (aCons (eVar 3) aNil))))) (cBin (gI fAdd) (eVar 12) (eVar 4)))))))))))
def m__law_right : Fm := runFn false [false, false, false, false] 9 b__law_right
def l_law_1 : Sv := (sIf (tNo (tV (eCall m__law_right [false, false, false, false] false (aCons (eVar 3) (aCons (eVar 4) (aCons (eVar 5) (aCons (eVar 6) aNil))))))) (sRet (eK (.bool false))) sNil)
def l_law_2 : Sv := (sSeq (sSet 2 (eCallN m__law_state [false, false] (aCons (eVar 0) (aCons (eVar 1) aNil))))
    (sSeq (sSet 3 (eCall m__law_net [true, false, false] false (aCons (eVar 2) (aCons (eK (.int 10)) (aCons (eK (.int 30)) aNil)))))
    (sSeq (sAsg (eCall m__law_ends [true, false] false (aCons (eVar 2) (aCons (eVar 3) aNil))) (.tp [(.nm 4), (.nm 5)]))
    (sFor (srcSeq (eLst (aCons (eK (.int 0)) (aCons (eK (.int 1)) (aCons (eCall m__law_take [true, false] false (aCons (eVar 2) (aCons (eK (.int 30)) aNil))) (aCons (eCall m__law_take [true, false] false (aCons (eVar 2) (aCons (eK (.int 201)) aNil))) aNil)))))) (.nm 6) l_law_1))))
def b_law : Sv := (sSeq (sFor (srcRng1 (aCons (cCB gMax2 (aCons (eK (.int 1)) (aCons (cCB gMin2 (aCons (cCB gLen (aCons (eVar 0) aNil)) (aCons (eK (.int 2)) aNil))) aNil))) aNil)) (.nm 1) l_law_2)
    (sRet (eK (.bool true))))
def m_law : Fm := runFn false [false] 6 b_law
end FL

namespace FL
open PySem PySem.Spec PyProof.Rows L2
/-- a road, a net -/
structure Road where
  one : Nat
  other : Nat
  cost : Nat
  time : Nat
def Road.d (r : Road) : PyData := .tuple [.int r.one, .int r.other, .int r.cost, .int r.time]
def netD (n : Nat) (rs : List Road) : PyData := .tuple [.int n, .tuple (rs.map Road.d)]
structure Road.Ok (n : Nat) (r : Road) : Prop where
  one : r.one < n
  other : r.other < n
  ne : r.one ≠ r.other
  c1 : 1 ≤ r.cost
  c2 : r.cost ≤ 99
  t : r.time ≤ 99
structure NetOk (n : Nat) (rs : List Road) : Prop where
  n1 : 1 ≤ n
  n2 : n ≤ 10
  len : rs.length ≤ 30
  all : ∀ r ∈ rs, r.Ok n
@[simp] theorem e_among {i a b : Int} : m_is_among [.int i, .int a, .int b] [] = .ok (.bool (decide (a ≤ i) && decide (i ≤ b))) [] := by
  simp [m_is_among, b_is_among]
theorem cut_to {ds : List PyData} {k : Nat} : cutD ds none (some (k : Int)) = ds.take k := by
  unfold cutD
  rw [HT.sIx_nat, HT.sIx_none, List.drop_zero, Nat.sub_zero]
  by_cases q : k ≤ ds.length
  · rw [Nat.min_eq_left q]
  · rw [Nat.min_eq_right (by omega), List.take_of_length_le (Nat.le_refl _), List.take_of_length_le (by omega)]
theorem cut_to2 {ds : List PyData} : cutD ds none (some 2) = ds.take 2 := cut_to (k := 2)
theorem e_road {n : Nat} {r : Road} (h : r.Ok n) : m_is_road [r.d, .int n] [] = .ok (.bool true) [] := by
  obtain ⟨h1, h2, h3, h4, h5, h6⟩ := h
  have w1 : (r.one : Int) ≤ n - 1 := by omega
  have w2 : (r.other : Int) ≤ n - 1 := by omega
  have w3 : (1 : Int) ≤ r.cost := by omega
  have w4 : (r.cost : Int) ≤ 99 := by omega
  have w5 : (r.time : Int) ≤ 99 := by omega
  have w6 : ¬ (r.one : Int) = r.other := by omega
  simp [m_is_road, b_is_road, Road.d, cut_to2, compL, bools?, w1, w2, w3, w4, w5, w6]
theorem e_net {n : Nat} {rs : List Road} (h : NetOk n rs) : m_is_net [netD n rs] [] = .ok (.bool true) [] := by
  obtain ⟨h1, h2, h3, h4⟩ := h
  have w1 : (1 : Int) ≤ n := by omega
  have w2 : (n : Int) ≤ 10 := by omega
  have w3 : (rs.length : Int) ≤ 30 := by omega
  simp [m_is_net, b_is_net, netD, w1, w2, w3]
  rw [comp_map (dd := Road.d) (w := fun _ => .bool true) (fun z => by simp; rfl) (fun z => rfl) rs [] (fun z m => by simp [e_road (h4 z m)]) (by simp; omega)]
  simp [bools_map]
@[simp] theorem e_needNet {n : Nat} {rs : List Road} (h : NetOk n rs) : m_need_net [netD n rs] [] = .ok .none [] := by
  simp [m_need_net, b_need_net, e_net h]
@[simp] theorem e_place {n : Nat} {rs : List Road} {i : Int} : m_is_place [netD n rs, .int i] [] = .ok (.bool (decide (0 ≤ i) && decide (i ≤ n - 1))) [] := by
  simp [m_is_place, b_is_place, netD]
theorem e_needPlace {n p : Nat} {rs : List Road} (h : p < n) : m_need_place [netD n rs, .int p] [] = .ok .none [] := by
  have w1 : (p : Int) ≤ n - 1 := by omega
  simp [m_need_place, b_need_place, w1]
theorem e_needEnds {n s g : Nat} {rs : List Road} (h : NetOk n rs) (hs : s < n) (hg : g < n) : m_need_ends [netD n rs, .int s, .int g] [] = .ok .none [] := by
  simp [m_need_ends, b_need_ends, e_needNet h, e_needPlace hs, e_needPlace hg]
theorem e_needCost {c : Nat} (h : c ≤ 600) : m_need_cost [.int c] [] = .ok .none [] := by
  have w1 : (c : Int) ≤ 600 := by omega
  simp [m_need_cost, b_need_cost, w1]
/-! ### rows -/
def rowD (n : Nat) (f : Nat → Int) : List PyData := (List.range n).map fun s => .int (f s)
theorem rowD_get {n k : Nat} {f : Nat → Int} (h : k < n) : (rowD n f)[k]? = some (.int (f k)) := by
  unfold rowD
  rw [List.getElem?_map, List.getElem?_range h]
  rfl
theorem rowD_len {n : Nat} {f : Nat → Int} : (rowD n f).length = n := by unfold rowD; simp
theorem rowD_set {n k : Nat} {f : Nat → Int} {v : Int} (h : k < n) : (rowD n f).set k (.int v) = rowD n fun s => if s = k then v else f s := by
  refine List.ext_getElem? fun i => ?_
  rw [List.getElem?_set, rowD_len]
  by_cases q : k = i
  · subst q
    rw [if_pos rfl, if_pos h, rowD_get h, if_pos rfl]
  · rw [if_neg q]
    by_cases q2 : i < n
    · rw [rowD_get q2, rowD_get q2, if_neg (fun z => q z.symm)]
    · rw [List.getElem?_eq_none (by rw [rowD_len]; omega), List.getElem?_eq_none (by rw [rowD_len]; omega)]
theorem noLs_ints : ∀ xs : List Nat, ∀ f : Nat → Int, noLs (xs.map fun s => .int (f s)) = true
  | [], _ => rfl
  | x :: xs, f => by simp only [List.map_cons, noLs, noL, noLs_ints xs f, Bool.and_self]
theorem rowD_noL {n : Nat} {f : Nat → Int} : noLs (rowD n f) = true := noLs_ints _ _
def rowsD (n : Nat) (F : Nat → Nat → Int) (k : Nat) : List PyData := (List.range k).map fun c => .list (rowD n (F c))
theorem rowsD_len {n k : Nat} {F : Nat → Nat → Int} : (rowsD n F k).length = k := by unfold rowsD; simp
theorem rowsD_get {n k c : Nat} {F : Nat → Nat → Int} (h : c < k) : (rowsD n F k)[c]? = some (.list (rowD n (F c))) := by
  unfold rowsD
  rw [List.getElem?_map, List.getElem?_range h]
  rfl
theorem rowsD_succ {n k : Nat} {F : Nat → Nat → Int} : rowsD n F (k + 1) = rowsD n F k ++ [.list (rowD n (F k))] := by
  unfold rowsD
  rw [List.range_succ, List.map_append]
  rfl
/-- what a road adds to a row -/
def plusR (F : Nat → Nat → Int) (k : Nat) (r : Road) (f : Nat → Int) : Nat → Int := fun s => f s + if r.one = s ∧ r.cost ≤ k then F (k - r.cost) r.other else 0
@[simp] theorem putAt_ {n : Nat} {i : Int} {d : PyData} {h : Hs} : putAt (.loc n) (.val (.int i)) (.val d) h = match h[n]? with
    | some (.lst ds) => (match ixN ds.length i with
      | some j => some (h.set n (.lst (ds.set j d)))
      | none => none)
    | _ => none := id rfl
theorem ixN_nat {n k : Nat} (h : k < n) : ixN n (k : Int) = some k := by
  unfold ixN
  rw [if_pos (Int.natCast_nonneg k), if_pos (by omega)]
  rfl
@[simp] theorem v_augIx {g : G2} {fo fi fe : Ev} {env : En} {h : Hs} : sAugIx g fo fi fe env h = (fo env h).fl env fun s h => (fi env h).fl env fun t h => match lix s t h with
  | some x => (fe env h).fl env fun u h => match g (.val x) u h with
    | some d => match putAt s t (.val d) h with
      | some h' => .next env h'
      | none => .bad
    | none => .bad
  | none => .bad := id rfl
theorem e_turn {n k : Nat} {F : Nat → Nat → Int} {f : Nat → Int} {r : Road} (hr : r.Ok n) {x0 x1 x3 x4 x11 : Option Sl} :
    l_next_row_1 [x0, x1, some (.val (.list (rowsD n F k))), x3, x4, some (.val (.int k)), some (.loc 0), some (.val (.int r.one)), some (.val (.int r.other)), some (.val (.int r.cost)), some (.val (.int r.time)), x11] [.lst (rowD n f)]
      = .next [x0, x1, some (.val (.list (rowsD n F k))), x3, x4, some (.val (.int k)), some (.loc 0), some (.val (.int r.one)), some (.val (.int r.other)), some (.val (.int r.cost)), some (.val (.int r.time)), x11] [.lst (rowD n (plusR F k r f))] := by
  obtain ⟨h1, h2, h3, h4, h5, h6⟩ := hr
  by_cases q : r.cost ≤ k
  · have w1 : (r.cost : Int) ≤ k := by omega
    have w2 : (k : Int) - r.cost = ((k - r.cost : Nat) : Int) := by omega
    simp [l_next_row_1, w1, w2, rowsD_get (show k - r.cost < k by omega), rowD_get h1, rowD_get h2, rowD_len, ixN_nat h1, rowD_set h1]
    congr 1
    funext s
    unfold plusR
    by_cases q2 : s = r.one
    · subst q2
      rw [if_pos rfl, if_pos ⟨rfl, q⟩]
    · rw [if_neg q2, if_neg (fun z => q2 z.1.symm), Int.add_zero]
  · have w1 : ¬ (r.cost : Int) ≤ k := by omega
    simp [l_next_row_1, w1]
    congr 1
    funext s
    unfold plusR
    rw [if_neg (fun z => q z.2), Int.add_zero]
theorem e_turns {n k : Nat} {F : Nat → Nat → Int} {x0 x1 x3 x4 x11 : Option Sl} (h0 : cutE 1 [x0, x1, x3, x4, x11] = [x0, x1, x3, x4, x11]) : ∀ (rs : List Road) (f : Nat → Int) (y1 y2 y3 y4 : Option Sl), (∀ r ∈ rs, r.Ok n) →
    ∃ z1 z2 z3 z4, loopF (.tp [.nm 7, .nm 8, .nm 9, .nm 10]) l_next_row_1 1 (rs.map Road.d) [x0, x1, some (.val (.list (rowsD n F k))), x3, x4, some (.val (.int k)), some (.loc 0), y1, y2, y3, y4, x11] [.lst (rowD n f)]
      = .next [x0, x1, some (.val (.list (rowsD n F k))), x3, x4, some (.val (.int k)), some (.loc 0), z1, z2, z3, z4, x11] [.lst (rowD n (rs.foldl (fun f r => plusR F k r f) f))]
  | [], f, y1, y2, y3, y4, _ => ⟨y1, y2, y3, y4, rfl⟩
  | r :: rs, f, y1, y2, y3, y4, hr => by
    obtain ⟨z1, z2, z3, z4, e⟩ := e_turns h0 rs (plusR F k r f) (some (.val (.int r.one))) (some (.val (.int r.other))) (some (.val (.int r.cost))) (some (.val (.int r.time))) fun x m => hr x (List.mem_cons_of_mem _ m)
    refine ⟨z1, z2, z3, z4, ?_⟩
    rw [List.foldl_cons, ← e, List.map_cons]
    conv => lhs; unfold loopF
    simp only [Road.d, v_putT, v_putsC, v_putsN, List.set_cons_succ, List.set_cons_zero]
    rw [e_turn (hr r List.mem_cons_self)]
    simp only [List.take_succ_cons, List.take_zero]
    have e2 : cutE 1 [x0, x1, some (.val (.list (rowsD n F k))), x3, x4, some (.val (.int k)), some (.loc 0), some (.val (.int r.one)), some (.val (.int r.other)), some (.val (.int r.cost)), some (.val (.int r.time)), x11] = [x0, x1, some (.val (.list (rowsD n F k))), x3, x4, some (.val (.int k)), some (.loc 0), some (.val (.int r.one)), some (.val (.int r.other)), some (.val (.int r.cost)), some (.val (.int r.time)), x11] := by
      unfold cutE at h0 ⊢
      simp only [List.map_cons, List.map_nil, List.cons.injEq] at h0 ⊢
      obtain ⟨a1, a2, a3, a4, a5, _⟩ := h0
      exact ⟨a1, a2, trivial, a3, a4, trivial, rfl, trivial, trivial, trivial, trivial, a5, trivial⟩
    rw [e2]
/-! ### the count of walks -/
def cntF (rs : List Road) (g : Nat) : Nat → Nat → Nat → Int
  | 0, _, _ => 0
  | k + 1, c, s => (if c = 0 ∧ s = g then 1 else 0) + (rs.map fun r => if r.one = s ∧ r.cost ≤ c then cntF rs g k (c - r.cost) r.other else 0).sum
def cnt (rs : List Road) (g c s : Nat) : Int := cntF rs g (c + 1) c s
def Pos (rs : List Road) : Prop := ∀ r ∈ rs, 1 ≤ r.cost
theorem cntF_eq {rs : List Road} {g : Nat} (hp : Pos rs) : ∀ (k j c s : Nat), c < k → c < j → cntF rs g k c s = cntF rs g j c s
  | 0, _, _, _, h, _ => absurd h (Nat.not_lt_zero _)
  | _, 0, _, _, _, h => absurd h (Nat.not_lt_zero _)
  | k + 1, j + 1, c, s, h1, h2 => by
    unfold cntF
    congr 2
    refine List.map_congr_left fun r m => ?_
    by_cases q : r.one = s ∧ r.cost ≤ c
    · rw [if_pos q, if_pos q]
      have := hp r m
      exact cntF_eq hp k j _ _ (by omega) (by omega)
    · rw [if_neg q, if_neg q]
theorem cnt_eq {rs : List Road} (hp : Pos rs) (g c s : Nat) : cnt rs g c s = (if c = 0 ∧ s = g then 1 else 0) + (rs.map fun r => if r.one = s ∧ r.cost ≤ c then cnt rs g (c - r.cost) r.other else 0).sum := by
  conv => lhs; unfold cnt cntF
  congr 2
  refine List.map_congr_left fun r m => ?_
  by_cases q : r.one = s ∧ r.cost ≤ c
  · rw [if_pos q, if_pos q]
    have := hp r m
    exact cntF_eq hp _ _ _ _ (by omega) (by omega)
  · rw [if_neg q, if_neg q]
theorem fold_plus {F : Nat → Nat → Int} {k : Nat} : ∀ (rs : List Road) (f : Nat → Int), rs.foldl (fun f r => plusR F k r f) f = fun s => f s + (rs.map fun r => if r.one = s ∧ r.cost ≤ k then F (k - r.cost) r.other else 0).sum
  | [], f => by funext s; simp
  | r :: rs, f => by
    rw [List.foldl_cons, fold_plus rs]
    funext s
    simp only [plusR, List.map_cons, List.sum_cons]
    omega
end FL

namespace FL
open PySem PySem.Spec PyProof.Rows L2
@[simp] theorem v_outR {k : Nat} {ds : List PyData} {h : Hs} (hn : noLs ds = true) (e : h[k]? = some (.lst ds)) {fr : Bool} : outD fr k (.loc k) h = .ok (.list ds) (h.take k) := by
  unfold outD
  simp [e, hn]
theorem v_outO {k n : Nat} {ds : List PyData} {h : Hs} (hk : k ≤ n) (e : h[n]? = some (.lst ds)) : outD false k (.loc n) h = .ok (.list ds) (h.take k) := by
  unfold outD
  simp [e, hk]
theorem NetOk.pos {n : Nat} {rs : List Road} (h : NetOk n rs) : Pos rs := fun r m => (h.all r m).c1
theorem e_row {n g k : Nat} {rs : List Road} (h : NetOk n rs) : m_next_row [netD n rs, .int g, .list (rowsD n (cnt rs g) k)] [] = .ok (.list (rowD n (cnt rs g k))) [] := by
  have h1 := h.n1
  have h2 := h.n2
  simp [m_next_row, b_next_row, netD, rowsD_len]
  rw [v_rng1 (by omega) (by omega)]
  simp [upTo]
  rw [comp_map (dd := fun x : Nat => PyData.int x) (w := fun x : Nat => .int (if k = 0 ∧ x = g then 1 else 0)) (fun z => by simp; rfl) (fun z => rfl) (List.range n) [] (fun z m => by simp; norm_cast) (by simp; omega)]
  simp
  obtain ⟨z1, z2, z3, z4, e⟩ := e_turns (n := n) (k := k) (F := cnt rs g) (x0 := some (Sl.val (PyData.tuple [PyData.int ↑n, PyData.tuple (List.map Road.d rs)]))) (x1 := some (Sl.val (PyData.int ↑g))) (x3 := some (Sl.val (PyData.int ↑n))) (x4 := some (Sl.val (PyData.tuple (List.map Road.d rs)))) (x11 := none) (by simp) rs (fun x => if k = 0 ∧ x = g then 1 else 0) none none none none h.all
  unfold rowD at e
  rw [e]
  simp
  rw [v_outR (rowD_noL (f := _)) rfl, fold_plus]
  simp only [List.take_zero, rowD]
  congr 2
  refine List.map_congr_left fun s _ => ?_
  rw [cnt_eq h.pos]
theorem call_row {n g k : Nat} {rs : List Road} (h : NetOk n rs) : callF m_next_row [false, false, false] true [.val (netD n rs), .val (.int g), .loc 0] [.lst (rowsD n (cnt rs g) k)] = .ok (.val (.list (rowD n (cnt rs g k)))) [.lst (rowsD n (cnt rs g) k)] := by
  exact callF_eq (ns := []) (vw := [0]) rfl rfl (.inr rfl) (e_row h) (.inr rfl)
@[simp] theorem v_mt {m : GM} {f : Ev} {a : Av} {env : En} {h : Hs} : eMt m f a env h = (f env h).bind fun s h => if (litems s h).isSome = true then (a env h).bind fun ss h => match m s ss h with
  | some (d, h') => .ok (.val d) h'
  | none => .bad else .bad := id rfl
@[simp] theorem v_app {n : Nat} {d : PyData} {h : Hs} : mAppend (.loc n) [.val d] h = match h[n]? with
    | some (.lst ds) => if ds.length < 16777216 then some (.none, h.set n (.lst (ds ++ [d]))) else none
    | _ => none := id rfl
theorem e_while {n g c : Nat} {rs : List Road} (h : NetOk n rs) (hc : c ≤ 600) : ∀ (m k : Nat), k ≤ c + 1 → c + 1 < k + m →
    loopW (tV (cBin (gI fLe) (cCB gLen (aCons (eVar 3) aNil)) (eVar 2))) l_rows_to_1 1 m [some (.val (netD n rs)), some (.val (.int g)), some (.val (.int c)), some (.loc 0)] [.lst (rowsD n (cnt rs g) k)]
      = .next [some (.val (netD n rs)), some (.val (.int g)), some (.val (.int c)), some (.loc 0)] [.lst (rowsD n (cnt rs g) (c + 1))]
  | 0, k, h1, h2 => by omega
  | m + 1, k, h1, h2 => by
    unfold loopW
    by_cases q : k = c + 1
    · subst q
      simp [rowsD_len]
      omega
    · have w : (k : Int) ≤ c := by omega
      simp [rowsD_len, w, l_rows_to_1, call_row h]
      rw [if_pos (by omega)]
      simp
      rw [← rowsD_succ]
      exact e_while h hc m (k + 1) (by omega) (by omega)
theorem e_rows {n g c : Nat} {rs : List Road} (h : NetOk n rs) (hc : c ≤ 600) : m_rows_to [netD n rs, .int g, .int c] [] = .ok (.list (rowsD n (cnt rs g) (c + 1))) [] := by
  have e := e_while (g := g) h hc 1000000 0 (by omega) (by omega)
  unfold rowsD at e
  simp [m_rows_to, b_rows_to, v_new1, sWhile]
  simp at e
  rw [e]
  simp
  rw [v_outO (Nat.zero_le _) rfl]
  simp [rowsD]
theorem e_count {n s g c : Nat} {rs : List Road} (h : NetOk n rs) (hs : s < n) (hg : g < n) (hc : c ≤ 600) : m_count_of [netD n rs, .int s, .int g, .int c] [] = .ok (.int (cnt rs g c s)) [] := by
  simp [m_count_of, b_count_of, e_needEnds h hs hg, e_needCost hc, e_rows h hc, rowsD_get (Nat.lt_succ_self c), rowD_get hs]
def cntTo (rs : List Road) (g c s : Nat) : Int := ((List.range (c + 1)).map fun k => cnt rs g k s).sum
theorem e_countTo {n s g c : Nat} {rs : List Road} (h : NetOk n rs) (hs : s < n) (hg : g < n) (hc : c ≤ 600) : m_count_to [netD n rs, .int s, .int g, .int c] [] = .ok (.int (cntTo rs g c s)) [] := by
  simp [m_count_to, b_count_to, e_needEnds h hs hg, e_needCost hc, e_rows h hc]
  rw [rowsD, comp_map (dd := fun c : Nat => PyData.list (rowD n (cnt rs g c))) (w := fun c : Nat => .int (cnt rs g c s)) (fun z => by simp; rfl) (fun z => rfl) (List.range (c + 1)) [] (fun z m => by simp [rowD_get hs]) (by simp; omega)]
  simp [ints_map, cntTo]
end FL

namespace FL
open PySem PySem.Spec PyProof.Rows L2
/-! ### what is drawn -/
structure Dr where
  a : Nat
  b : Nat
  hb : b < 2147483647
def Dr.o (s : Dr) : Ob := .lst [.int s.a, .int s.b]
def Dr.b1 (s : Dr) : Nat := (s.b * 48271 + 29) % 2147483647
def Dr.x1 (s : Dr) : Nat := (s.b1 * s.b1 + 39373 * s.b1 + 7) % 2147483629
def Dr.x2 (s : Dr) : Nat := (s.x1 * s.x1 + 16807 * s.x1) % 2147483587
def Dr.tk (s : Dr) (far : Int) : Int := if 0 < s.a then s.a % far else s.x2 / 8 % far
def Dr.nx (s : Dr) (far : Int) : Dr := if 0 < s.a then ⟨(s.a / far).toNat, s.b, s.hb⟩ else ⟨0, s.b1, Nat.mod_lt _ (by decide)⟩
@[simp] theorem tk_nn {s : Dr} {far : Int} (h : 0 < far) : 0 ≤ s.tk far := by
  unfold Dr.tk
  split <;> exact Int.emod_nonneg _ (by omega)
@[simp] theorem tk_lt {s : Dr} {far : Int} (h : 0 < far) : s.tk far < far := by
  unfold Dr.tk
  split <;> exact Int.emod_lt_of_pos _ h
@[simp] theorem v_put {fo fi fe : Ev} {env : En} {h : Hs} : sPut fo fi fe env h = (fe env h).fl env fun u h => (fo env h).fl env fun s h => (fi env h).fl env fun t h => match putAt s t u h with
  | some h' => .next env h'
  | none => .bad := id rfl
@[simp] theorem ix0 {n : Nat} : ixN (n + 1) 0 = some 0 := ixN_nat (k := 0) (by omega)
@[simp] theorem ix1 {n : Nat} : ixN (n + 2) 1 = some 1 := ixN_nat (k := 1) (by omega)
theorem e_take {s : Dr} {far : Int} (h1 : 0 < far) (h2 : far < 1073741824) : m__law_take [.int far] [s.o] = .ok (.int (s.tk far)) [(s.nx far).o] := by
  have hb := s.hb
  unfold Dr.tk Dr.nx
  by_cases q : 0 < s.a
  · have w : (0 : Int) < s.a := by omega
    rw [if_pos q, if_pos q]
    simp [m__law_take, b__law_take, Dr.o, q, v_fMod h1, v_fDiv h1 h2]
    exact (Int.max_eq_left (Int.ediv_nonneg (Int.natCast_nonneg _) (by omega))).symm
  · have w : ¬ (0 : Int) < s.a := by omega
    rw [if_neg q, if_neg q]
    have e0 : ∀ x : Int, fMod x 2147483647 = some (.int (x % 2147483647)) := fun x => v_fMod (by decide)
    have e1 : ∀ x : Int, fMod x 2147483629 = some (.int (x % 2147483629)) := fun x => v_fMod (by decide)
    have e2 : ∀ x : Int, fMod x 2147483587 = some (.int (x % 2147483587)) := fun x => v_fMod (by decide)
    have e3 : ∀ x : Int, fDiv x 8 = some (.int (x / 8)) := fun x => v_fDiv (by decide) (by decide)
    have e4 : ∀ x : Int, fMul x 48271 = some (.int (x * 48271)) := fun x => v_fMulR (by decide) (by decide)
    have e5 : ∀ x : Int, fMul 39373 x = some (.int (39373 * x)) := fun x => v_fMulL (by decide) (by decide)
    have e6 : ∀ x : Int, fMul 16807 x = some (.int (16807 * x)) := fun x => v_fMulL (by decide) (by decide)
    have e7 : ∀ x y : Int, fMul (x % 2147483647) y = some (.int (x % 2147483647 * y)) := fun x y => v_fMulL (by omega) (by omega)
    have e8 : ∀ x y : Int, fMul (x % 2147483629) y = some (.int (x % 2147483629 * y)) := fun x y => v_fMulL (by omega) (by omega)
    simp [m__law_take, b__law_take, Dr.o, q, e0, e1, e2, e3, e4, e5, e6, e7, e8, v_fMod h1, Dr.x2, Dr.x1, Dr.b1]
    omega
@[simp] theorem c_take {s : Dr} {far : Int} {r : Hs} (h1 : 0 < far) (h2 : far < 1073741824) : callF m__law_take [true, false] false [.loc 0, .val (.int far)] (s.o :: r) = .ok (.val (.int (s.tk far))) ((s.nx far).o :: r) :=
  callF_eq (ns := [0]) (vw := []) rfl rfl (.inl rfl) (e_take h1 h2) (.inl rfl)
def stOf (c : Int) : Dr := ⟨(c - 1000000000000000000).toNat, (c % 2147483647).toNat, by omega⟩
theorem e_cell {ns : List Int} {k : Nat} : m__law_cell_at [.list (ns.map .int), .int k] [] = .ok (.int (ns[k]?.getD 0)) [] := by
  by_cases q : k < ns.length
  · have w : (k : Int) < ns.length := by omega
    simp [m__law_cell_at, b__law_cell_at, q]
  · have w : ¬ (k : Int) < ns.length := by omega
    simp [m__law_cell_at, b__law_cell_at, q]
theorem e_state {ns : List Int} {k : Nat} : m__law_state [.list (ns.map .int), .int k] [] = .ok (.list [.int (stOf (ns[k]?.getD 0)).a, .int (stOf (ns[k]?.getD 0)).b]) [] := by
  have e0 : ∀ x : Int, fMod x 2147483647 = some (.int (x % 2147483647)) := fun x => v_fMod (by decide)
  have e1 : fPow 10 18 = some (.int 1000000000000000000) := by unfold fPow; rw [if_pos (by decide)]; rfl
  simp [m__law_state, b__law_state, e_cell, e0, e1, v_new1]
  rw [v_outR rfl rfl]
  simp [stOf]
  omega
theorem c_state {ns : List Int} {k : Nat} {h : Hs} : callN m__law_state [false, false] [.val (.list (ns.map .int)), .val (.int k)] h = .ok (.loc h.length) (h ++ [(stOf (ns[k]?.getD 0)).o]) := by
  rw [callN_eq (ns := []) (vw := []) rfl rfl e_state rfl]
  rfl
theorem pick2 {a b i : Int} (h1 : 0 ≤ i) (h2 : i < 2) : atI [PyData.int a, .int b] i = some (.int (if i = 0 then a else b)) := by
  rcases (by omega : i = 0 ∨ i = 1) with rfl | rfl <;> rfl
theorem pick3 {a b c i : Int} (h1 : 0 ≤ i) (h2 : i < 3) : atI [PyData.int a, .int b, .int c] i = some (.int (if i = 0 then a else if i = 1 then b else c)) := by
  rcases (by omega : i = 0 ∨ i = 1 ∨ i = 2) with rfl | rfl | rfl <;> rfl
@[simp] theorem pick2t {a b : Int} {s : Dr} : atI [PyData.int a, .int b] (s.tk 2) = some (.int (if s.tk 2 = 0 then a else b)) := pick2 (tk_nn (by decide)) (tk_lt (by decide))
@[simp] theorem pick3t {a b c : Int} {s : Dr} : atI [PyData.int a, .int b, .int c] (s.tk 3) = some (.int (if s.tk 3 = 0 then a else if s.tk 3 = 1 then b else c)) := pick3 (tk_nn (by decide)) (tk_lt (by decide))
theorem line_s {n : Nat} {z : PyData} (hn : n ≤ 4) : line? n z = some z := v_line (by omega)
theorem mod_wrap {a y n : Int} (h1 : 0 ≤ a) (h2 : a < n) (h3 : 1 ≤ y) (h4 : y < n) : 0 ≤ (a + y) % n ∧ (a + y) % n < n ∧ a ≠ (a + y) % n := by
  have h5 : 0 < n := by omega
  refine ⟨Int.emod_nonneg _ (by omega), Int.emod_lt_of_pos _ h5, ?_⟩
  by_cases q : a + y < n
  · rw [Int.emod_eq_of_lt (by omega) q]; omega
  · have e : (a + y) % n = (a + y - n) % n := by rw [Int.sub_emod_right]
    rw [e, Int.emod_eq_of_lt (by omega) (by omega)]; omega
theorem fin_road {n : Nat} {s' : Dr} {rs : List Road} {x0 x1 x2 x3 x4 x5 : Option Sl} {a b c d : Int} (ha : 0 ≤ a ∧ a < n) (hb : 0 ≤ b ∧ b < n ∧ a ≠ b) (hc : 1 ≤ c ∧ c ≤ 99) (hd : 0 ≤ d ∧ d ≤ 99) :
    ∃ (r : Road), r.Ok n ∧ ∃ (s'' : Dr) (z6 z7 z8 z9 : PyData), Fl.next [x0, x1, x2, x3, x4, x5, some (.val (.int a)), some (.val (.int b)), some (.val (.int c)), some (.val (.int d))] [s'.o, .lst (rs.map Road.d ++ [.tuple [.int a, .int b, .int c, .int d]])]
      = .next [x0, x1, x2, x3, x4, x5, some (.val z6), some (.val z7), some (.val z8), some (.val z9)] [s''.o, .lst ((rs ++ [r]).map Road.d)] := by
  refine ⟨⟨a.toNat, b.toNat, c.toNat, d.toNat⟩, ⟨?_, ?_, ?_, ?_, ?_, ?_⟩, s', .int a, .int b, .int c, .int d, ?_⟩
  · show a.toNat < n; omega
  · show b.toNat < n; omega
  · show a.toNat ≠ b.toNat; omega
  · show 1 ≤ c.toNat; omega
  · show c.toNat ≤ 99; omega
  · show d.toNat ≤ 99; omega
  · rw [List.map_append]
    simp only [List.map_cons, List.map_nil, Road.d]
    rw [Int.toNat_of_nonneg ha.1, Int.toNat_of_nonneg hb.1, Int.toNat_of_nonneg (by omega), Int.toNat_of_nonneg hd.1]
theorem e_drawn {n t : Nat} {s : Dr} {rs : List Road} {x1 x2 y6 y7 y8 y9 : Option Sl} (h1 : 2 ≤ n) (h2 : n ≤ 10) (hl : rs.length < 100000) :
    ∃ (r : Road), r.Ok n ∧ ∃ (s' : Dr) (z6 z7 z8 z9 : PyData), l__law_net_1 [some (.loc 0), x1, x2, some (.val (.int n)), some (.loc 1), some (.val (.int t)), y6, y7, y8, y9] [s.o, .lst (rs.map Road.d)]
      = .next [some (.loc 0), x1, x2, some (.val (.int n)), some (.loc 1), some (.val (.int t)), some (.val z6), some (.val z7), some (.val z8), some (.val z9)] [s'.o, .lst ((rs ++ [r]).map Road.d)] := by
  have w1 : (0 : Int) < n := by omega
  have w2 : (n : Int) < 1073741824 := by omega
  have w3 : (0 : Int) < (n : Int) - 1 := by omega
  have w4 : (n : Int) - 1 < 1073741824 := by omega
  have w5 : rs.length < 16777216 := by omega
  generalize hX : l__law_net_1 [some (.loc 0), x1, x2, some (.val (.int n)), some (.loc 1), some (.val (.int t)), y6, y7, y8, y9] [s.o, .lst (rs.map Road.d)] = X
  simp only [l__law_net_1] at hX
  simp [c_take w1 w2, c_take w3 w4, line_s, v_fMod w1, w5] at hX
  subst hX
  have A : ∀ (p : Prop) [Decidable p], 0 ≤ (if p then s.tk n else min (t : Int) (n - 1)) ∧ (if p then s.tk n else min (t : Int) (n - 1)) < n := by
    intro p _
    have := tk_nn (s := s) w1
    have := tk_lt (s := s) w1
    split <;> omega
  refine fin_road (A _) ?_ ?_ ?_
  · obtain ⟨a1, a2⟩ := A (Dr.tk (s.nx n) 2 = 0)
    rw [Int.add_assoc]
    have B : ∀ (p : Prop) [Decidable p], 1 ≤ 1 + (if p then (0 : Int) else ((s.nx n).nx 2).tk (n - 1)) ∧ 1 + (if p then (0 : Int) else ((s.nx n).nx 2).tk (n - 1)) < n := by
      intro p _
      have := tk_nn (s := (s.nx n).nx 2) w3
      have := tk_lt (s := (s.nx n).nx 2) w3
      split <;> omega
    exact mod_wrap a1 a2 (B _).1 (B _).2
  · generalize ((((s.nx ↑n).nx 2).nx (↑n - 1)).nx 2) = u
    have := tk_nn (s := u) (show (0 : Int) < 4 by decide)
    have := tk_lt (s := u) (show (0 : Int) < 4 by decide)
    have := tk_nn (s := u.nx 4) (show (0 : Int) < 99 by decide)
    have := tk_lt (s := u.nx 4) (show (0 : Int) < 99 by decide)
    split <;> (try split) <;> omega
  · generalize (((((((s.nx ↑n).nx 2).nx (↑n - 1)).nx 2).nx 4).nx 99).nx 3) = u
    have := tk_nn (s := u) (show (0 : Int) < 4 by decide)
    have := tk_lt (s := u) (show (0 : Int) < 4 by decide)
    have := tk_nn (s := u.nx 4) (show (0 : Int) < 100 by decide)
    have := tk_lt (s := u.nx 4) (show (0 : Int) < 100 by decide)
    split <;> (try split) <;> omega
theorem e_drawns {n : Nat} {x1 x2 : Option Sl} (hx : cutE 2 [x1, x2] = [x1, x2]) (h1 : 2 ≤ n) (h2 : n ≤ 10) : ∀ (ts : List Nat) (s : Dr) (rs : List Road) (y5 y6 y7 y8 y9 : Option Sl), (∀ r ∈ rs, r.Ok n) → rs.length + ts.length < 100000 →
    ∃ (rs' : List Road) (s' : Dr) (z5 z6 z7 z8 z9 : Option Sl), (∀ r ∈ rs', r.Ok n) ∧ rs'.length = rs.length + ts.length ∧
      loopF (.nm 5) l__law_net_1 2 (ts.map fun t : Nat => .int t) [some (.loc 0), x1, x2, some (.val (.int n)), some (.loc 1), y5, y6, y7, y8, y9] [s.o, .lst (rs.map Road.d)]
      = .next [some (.loc 0), x1, x2, some (.val (.int n)), some (.loc 1), z5, z6, z7, z8, z9] [s'.o, .lst (rs'.map Road.d)]
  | [], s, rs, y5, y6, y7, y8, y9, ho, _ => ⟨rs, s, y5, y6, y7, y8, y9, ho, by simp, rfl⟩
  | t :: ts, s, rs, y5, y6, y7, y8, y9, ho, hl => by
    have hl' : rs.length + ts.length + 1 < 100000 := hl
    obtain ⟨r, hr, s1, u6, u7, u8, u9, e⟩ := e_drawn (t := t) (s := s) (rs := rs) (x1 := x1) (x2 := x2) (y6 := y6) (y7 := y7) (y8 := y8) (y9 := y9) h1 h2 (by omega)
    obtain ⟨rs', s', z5, z6, z7, z8, z9, h3, h4, e2⟩ := e_drawns hx h1 h2 ts s1 (rs ++ [r]) (some (.val (.int t))) (some (.val u6)) (some (.val u7)) (some (.val u8)) (some (.val u9)) (fun x m => by
      rcases List.mem_append.mp m with m | m
      · exact ho x m
      · rw [List.mem_singleton.mp m]; exact hr) (by simp; omega)
    refine ⟨rs', s', z5, z6, z7, z8, z9, h3, by rw [h4]; simp; omega, ?_⟩
    rw [← e2, List.map_cons]
    conv => lhs; unfold loopF
    simp only [v_putN, List.set_cons_succ, List.set_cons_zero]
    rw [e]
    simp only [cutE, List.map_cons, List.map_nil, List.cons.injEq] at hx
    simp only [List.take_succ_cons, List.take_zero, v_cutV, v_cutO, v_cutN]
    have e3 : cutE 2 (x1 :: x2 :: some (.val (.int n)) :: some (.loc 1) :: some (.val (.int t)) :: some (.val u6) :: some (.val u7) :: some (.val u8) :: [some (.val u9)]) = x1 :: x2 :: some (.val (.int n)) :: some (.loc 1) :: some (.val (.int t)) :: some (.val u6) :: some (.val u7) :: some (.val u8) :: [some (.val u9)] := by
      simp only [cutE, List.map_cons, List.map_nil, List.cons.injEq]
      obtain ⟨a1, a2, _⟩ := hx
      simp [a1, a2]
    rw [e3]
    rfl
theorem c_net {s : Dr} {a b : Nat} {r : Hs} (ha : 1 ≤ a ∧ a ≤ 10) (hb : b ≤ 30) : ∃ (n : Nat) (rs : List Road) (s' : Dr), NetOk n rs ∧ n ≤ a ∧ rs.length ≤ b ∧ callF m__law_net [true, false, false] false [.loc 0, .val (.int a), .val (.int b)] (s.o :: r) = .ok (.val (netD n rs)) (s'.o :: r) := by
  have w1 : (0 : Int) < a := by omega
  have w2 : (a : Int) < 1073741824 := by omega
  have w3 : (0 : Int) < (b : Int) + 1 := by omega
  have w4 : (b : Int) + 1 < 1073741824 := by omega
  have t1 := tk_nn (s := s) w1
  have t2 := tk_lt (s := s) w1
  obtain ⟨n, hn⟩ : ∃ n : Nat, 1 + s.tk a = n := ⟨(1 + s.tk a).toNat, by omega⟩
  have t3 := tk_nn (s := s.nx a) w3
  have t4 := tk_lt (s := s.nx a) w3
  obtain ⟨m, hm⟩ : ∃ m : Nat, (s.nx a).tk (b + 1) * (if (1 : Int) < n then 1 else 0) = m := ⟨((s.nx a).tk (b + 1) * (if (1 : Int) < n then 1 else 0)).toNat, by split <;> omega⟩
  have hm2 : m ≤ b := by
    split at hm <;> omega
  have hm3 : n = 1 → m = 0 := fun e => by
    rw [if_neg (by omega)] at hm
    omega
  have f1 : ∀ j : Int, fMul ((s.nx a).tk (b + 1)) j = some (.int ((s.nx a).tk (b + 1) * j)) := fun j => v_fMulL (by omega) (by omega)
  obtain ⟨rs, s', z5, z6, z7, z8, z9, q1, q2, e⟩ : ∃ (rs' : List Road) (s' : Dr) (z5 z6 z7 z8 z9 : Option Sl), (∀ r ∈ rs', r.Ok n) ∧ rs'.length = m ∧
      loopF (.nm 5) l__law_net_1 2 ((List.range m).map fun t : Nat => .int t) [some (.loc 0), some (.val (.int a)), some (.val (.int b)), some (.val (.int n)), some (.loc 1), none, none, none, none, none] [((s.nx a).nx (b + 1)).o, .lst []]
      = .next [some (.loc 0), some (.val (.int a)), some (.val (.int b)), some (.val (.int n)), some (.loc 1), z5, z6, z7, z8, z9] [s'.o, .lst (rs'.map Road.d)] := by
    by_cases hn1 : n = 1
    · rw [hm3 hn1]
      exact ⟨[], _, none, none, none, none, none, by simp, rfl, rfl⟩
    · have := e_drawns (n := n) (x1 := some (.val (.int a))) (x2 := some (.val (.int b))) (by simp) (by omega) (by omega) (List.range m) ((s.nx a).nx (b + 1)) [] none none none none none (by simp) (by simp; omega)
      simpa using this
  refine ⟨n, rs, s', ⟨by omega, by omega, by omega, q1⟩, by omega, by omega, ?_⟩
  refine callF_eq (ns := [0]) (vw := []) (os := [s.o]) (os' := [s'.o]) (ds := [.int a, .int b]) rfl rfl (.inl rfl) ?_ (.inl rfl)
  simp [m__law_net, b__law_net, c_take w1 w2, c_take w3 w4, v_new1, hn, f1, hm]
  rw [v_rng1 (by omega) (by omega)]
  simp [upTo]
  rw [e]
  simp [line_s, netD]
theorem c_ends {n : Nat} {rs : List Road} {s : Dr} {r : Hs} (h : NetOk n rs) : ∃ (a b : Nat) (s' : Dr), a < n ∧ b < n ∧ callF m__law_ends [true, false] false [.loc 0, .val (netD n rs)] (s.o :: r) = .ok (.val (.tuple [.int a, .int b])) (s'.o :: r) := by
  have h1 := h.n1
  have h2 := h.n2
  have w1 : (0 : Int) < n := by omega
  have w2 : (n : Int) < 1073741824 := by omega
  have t1 := tk_nn (s := s) w1
  have t2 := tk_lt (s := s) w1
  have t3 := tk_nn (s := s.nx n) w1
  have t4 := tk_lt (s := s.nx n) w1
  have t5 := tk_nn (s := (s.nx n).nx n) w1
  have t6 := tk_lt (s := (s.nx n).nx n) w1
  obtain ⟨a, ha⟩ : ∃ a : Nat, s.tk n = a := ⟨(s.tk n).toNat, by omega⟩
  obtain ⟨b, hb⟩ : ∃ b : Nat, (if (((s.nx n).nx n).nx n).tk 3 = 0 then s.tk n else if (((s.nx n).nx n).nx n).tk 3 = 1 then (s.nx n).tk n else ((s.nx n).nx n).tk n) = b := ⟨(if (((s.nx n).nx n).nx n).tk 3 = 0 then s.tk n else if (((s.nx n).nx n).nx n).tk 3 = 1 then (s.nx n).tk n else ((s.nx n).nx n).tk n).toNat, by split <;> (try split) <;> omega⟩
  refine ⟨a, b, ((((s.nx n).nx n).nx n).nx 3), by omega, by split at hb <;> (try split at hb) <;> omega, ?_⟩
  refine callF_eq (ns := [0]) (vw := []) (os := [s.o]) (os' := [((((s.nx n).nx n).nx n).nx 3).o]) (ds := [netD n rs]) rfl rfl (.inl rfl) ?_ (.inl rfl)
  simp [m__law_ends, b__law_ends, netD, c_take w1 w2, line_s]
  rw [hb, ha]
  simp
end FL

namespace FL
open PySem PySem.Spec PyProof.Rows L2
/-! ### sums over lists -/
section
variable {α β : Type}
def Sg (xs : List α) (f : α → Int) : Int := (xs.map f).sum
theorem Sg_nil (f : α → Int) : Sg [] f = 0 := rfl
theorem Sg_cons (x : α) (xs : List α) (f : α → Int) : Sg (x :: xs) f = f x + Sg xs f := by unfold Sg; rw [List.map_cons, List.sum_cons]
theorem Sg_congr {xs : List α} {f g : α → Int} (h : ∀ x ∈ xs, f x = g x) : Sg xs f = Sg xs g := by unfold Sg; rw [List.map_congr_left h]
theorem Sg_zero : ∀ xs : List α, Sg xs (fun _ => 0) = 0
  | [] => rfl
  | x :: xs => by rw [Sg_cons, Sg_zero xs]; rfl
theorem Sg_add (f g : α → Int) : ∀ xs : List α, Sg xs (fun x => f x + g x) = Sg xs f + Sg xs g
  | [] => rfl
  | x :: xs => by rw [Sg_cons, Sg_cons, Sg_cons, Sg_add f g xs]; omega
theorem Sg_swap (f : α → β → Int) (ys : List β) : ∀ xs : List α, Sg xs (fun x => Sg ys fun y => f x y) = Sg ys fun y => Sg xs fun x => f x y
  | [] => by rw [Sg_nil]; exact (Sg_zero ys).symm
  | x :: xs => by
    rw [Sg_cons, Sg_swap f ys xs, ← Sg_add]
    refine Sg_congr fun y _ => ?_
    rw [Sg_cons]
theorem Sg_if (p : Prop) [Decidable p] (xs : List α) (f : α → Int) : (if p then Sg xs f else 0) = Sg xs fun x => if p then f x else 0 := by
  by_cases q : p
  · rw [if_pos q]
    exact Sg_congr fun x _ => (if_pos q).symm
  · rw [if_neg q]
    exact (Sg_zero xs).symm.trans (Sg_congr fun x _ => (if_neg q).symm)
theorem Sg_append (f : α → Int) (ys : List α) : ∀ xs : List α, Sg (xs ++ ys) f = Sg xs f + Sg ys f
  | [] => by rw [List.nil_append, Sg_nil, Int.zero_add]
  | x :: xs => by rw [List.cons_append, Sg_cons, Sg_cons, Sg_append f ys xs]; omega
theorem Sg_reverse (f : α → Int) : ∀ xs : List α, Sg xs.reverse f = Sg xs f
  | [] => rfl
  | x :: xs => by rw [List.reverse_cons, Sg_append, Sg_reverse f xs, Sg_cons, Sg_cons, Sg_nil]; omega
theorem Sg_map (g : β → α) (f : α → Int) (xs : List β) : Sg (xs.map g) f = Sg xs fun x => f (g x) := by unfold Sg; rw [List.map_map]; rfl
end
/-! ### how counts join -/
theorem cnt_first {rs : List Road} (hp : Pos rs) (g c s : Nat) : cnt rs g c s = (if c = 0 ∧ s = g then 1 else 0) + Sg rs fun r => if r.one = s ∧ r.cost ≤ c then cnt rs g (c - r.cost) r.other else 0 := cnt_eq hp g c s
theorem ite3 (p q : Prop) [Decidable p] [Decidable q] (x : Int) : (if p then (if q then x else 0) else 0) = if p ∧ q then x else 0 := by
  by_cases h1 : p <;> by_cases h2 : q <;> simp [h1, h2]
theorem ite_add (p : Prop) [Decidable p] (x y : Int) : (if p then x + y else 0) = (if p then x else 0) + if p then y else 0 := by
  by_cases h : p <;> simp [h]
theorem ite_iff' {p q : Prop} [Decidable p] [Decidable q] (h : p ↔ q) (x : Int) : (if p then x else 0) = if q then x else 0 := by
  by_cases h1 : p
  · rw [if_pos h1, if_pos (h.mp h1)]
  · rw [if_neg h1, if_neg (fun z => h1 (h.mpr z))]
theorem cnt_last {rs : List Road} (hp : Pos rs) : ∀ (k c g s : Nat), c < k → cnt rs g c s = (if c = 0 ∧ s = g then 1 else 0) + Sg rs fun q => if q.other = g ∧ q.cost ≤ c then cnt rs q.one (c - q.cost) s else 0
  | 0, _, _, _, h => absurd h (Nat.not_lt_zero _)
  | k + 1, c, g, s, hk => by
    rw [cnt_first hp]
    congr 1
    -- by the first road, then the last
    have e1 : (Sg rs fun r => if r.one = s ∧ r.cost ≤ c then cnt rs g (c - r.cost) r.other else 0)
        = (Sg rs fun r => if r.one = s ∧ r.cost = c ∧ r.other = g then 1 else 0) + Sg rs fun r => Sg rs fun q => if (r.one = s ∧ r.cost ≤ c) ∧ (q.other = g ∧ q.cost ≤ c - r.cost) then cnt rs q.one (c - r.cost - q.cost) r.other else 0 := by
      rw [← Sg_add]
      refine Sg_congr fun r m => ?_
      have hr := hp r m
      by_cases q : r.one = s ∧ r.cost ≤ c
      · rw [if_pos q, cnt_last hp k (c - r.cost) g r.other (by omega)]
        congr 1
        · by_cases q2 : c - r.cost = 0 ∧ r.other = g
          · rw [if_pos q2, if_pos ⟨q.1, by omega, q2.2⟩]
          · rw [if_neg q2, if_neg (fun z => q2 ⟨by omega, z.2.2⟩)]
        · exact Sg_congr fun x _ => ite_iff' (by constructor <;> intro z <;> simp_all) _
      · rw [if_neg q, if_neg (fun z => q ⟨z.1, by omega⟩), Sg_congr (g := fun _ => 0) (fun x _ => if_neg (fun z => q z.1)), Sg_zero]
        rfl
    have e2 : (Sg rs fun q => if q.other = g ∧ q.cost ≤ c then cnt rs q.one (c - q.cost) s else 0)
        = (Sg rs fun q => if q.one = s ∧ q.cost = c ∧ q.other = g then 1 else 0) + Sg rs fun q => Sg rs fun r => if (r.one = s ∧ r.cost ≤ c) ∧ (q.other = g ∧ q.cost ≤ c - r.cost) then cnt rs q.one (c - r.cost - q.cost) r.other else 0 := by
      rw [← Sg_add]
      refine Sg_congr fun q m => ?_
      have hr := hp q m
      by_cases w : q.other = g ∧ q.cost ≤ c
      · rw [if_pos w, cnt_first hp]
        congr 1
        · by_cases q2 : c - q.cost = 0 ∧ s = q.one
          · rw [if_pos q2, if_pos ⟨q2.2.symm, by omega, w.1⟩]
          · rw [if_neg q2, if_neg (fun z => q2 ⟨by omega, z.1.symm⟩)]
        · refine Sg_congr fun r mr => ?_
          have := hp r mr
          by_cases q3 : r.one = s ∧ r.cost ≤ c - q.cost
          · rw [if_pos q3, if_pos ⟨⟨q3.1, by omega⟩, w.1, by omega⟩, show c - q.cost - r.cost = c - r.cost - q.cost by omega]
          · rw [if_neg q3, if_neg (fun z => q3 ⟨z.1.1, by omega⟩)]
      · rw [if_neg w, if_neg (fun z => w ⟨z.2.2, by omega⟩), Sg_congr (g := fun _ => 0) (fun r mr => if_neg (fun z => w ⟨z.2.1, by have := hp r mr; omega⟩)), Sg_zero]
        rfl
    rw [e1, e2, Sg_swap]
def Road.flip (r : Road) : Road := ⟨r.other, r.one, r.cost, r.time⟩
theorem Pos.flip {rs : List Road} (hp : Pos rs) : Pos (rs.map Road.flip) := fun r m => by
  obtain ⟨q, m2, rfl⟩ := List.mem_map.mp m
  exact hp q m2
theorem cnt_flip {rs : List Road} (hp : Pos rs) : ∀ (k c g s : Nat), c < k → cnt (rs.map Road.flip) s c g = cnt rs g c s
  | 0, _, _, _, h => absurd h (Nat.not_lt_zero _)
  | k + 1, c, g, s, hk => by
    rw [cnt_first hp.flip, cnt_last hp (c + 1) c g s (by omega), Sg_map]
    congr 1
    · by_cases q : c = 0 ∧ g = s
      · rw [if_pos q, if_pos ⟨q.1, q.2.symm⟩]
      · rw [if_neg q, if_neg (fun z => q ⟨z.1, z.2.symm⟩)]
    · refine Sg_congr fun r m => ?_
      have hr := hp r m
      show (if r.other = g ∧ r.cost ≤ c then cnt (rs.map Road.flip) s (c - r.cost) r.one else 0) = _
      by_cases q : r.other = g ∧ r.cost ≤ c
      · rw [if_pos q, if_pos q, cnt_flip hp k (c - r.cost) r.one s (by omega)]
      · rw [if_neg q, if_neg q]
theorem Pos.rev {rs : List Road} (hp : Pos rs) : Pos rs.reverse := fun r m => hp r (List.mem_reverse.mp m)
theorem cnt_rev {rs : List Road} (hp : Pos rs) : ∀ (k c g s : Nat), c < k → cnt rs.reverse g c s = cnt rs g c s
  | 0, _, _, _, h => absurd h (Nat.not_lt_zero _)
  | k + 1, c, g, s, hk => by
    rw [cnt_first hp.rev, cnt_first hp, Sg_reverse]
    congr 1
    refine Sg_congr fun r m => ?_
    have hr := hp r m
    by_cases q : r.one = s ∧ r.cost ≤ c
    · rw [if_pos q, if_pos q, cnt_rev hp k (c - r.cost) g r.other (by omega)]
    · rw [if_neg q, if_neg q]
theorem cntTo_succ {rs : List Road} {g c s : Nat} (h : 0 < c) : cntTo rs g c s = cntTo rs g (c - 1) s + cnt rs g c s := by
  obtain ⟨k, rfl⟩ : ∃ k, c = k + 1 := ⟨c - 1, by omega⟩
  unfold cntTo
  rw [List.range_succ (n := k + 1), List.map_append, List.sum_append, Nat.add_sub_cancel]
  simp
theorem cntTo_zero {rs : List Road} {g s : Nat} : cntTo rs g 0 s = cnt rs g 0 s := by
  unfold cntTo
  simp
/-! ### the law -/
theorem NetOk.flip {n : Nat} {rs : List Road} (h : NetOk n rs) : NetOk n (rs.map Road.flip) := ⟨h.n1, h.n2, by simpa using h.len, fun r m => by
  obtain ⟨q, m2, rfl⟩ := List.mem_map.mp m
  have w := h.all q m2
  exact ⟨w.other, w.one, fun z => w.ne z.symm, w.c1, w.c2, w.t⟩⟩
theorem NetOk.rev {n : Nat} {rs : List Road} (h : NetOk n rs) : NetOk n rs.reverse := ⟨h.n1, h.n2, by simpa using h.len, fun r m => h.all r (List.mem_reverse.mp m)⟩
def firstR (rs : List Road) (g c s : Nat) (r : Road) : Int := if r.one = s ∧ r.cost ≤ c then cnt rs g (c - r.cost) r.other else 0
def lastR (rs : List Road) (g c s : Nat) (r : Road) : Int := if r.other = g ∧ r.cost ≤ c then cnt rs r.one (c - r.cost) s else 0
theorem e_rturn {n s g c : Nat} {rs : List Road} {r : Road} {A B : Int} {x4 x11 x12 : Option Sl} (h : NetOk n rs) (hs : s < n) (hg : g < n) (hc : c ≤ 600) (hr : r.Ok n) :
    l__law_right_1 [some (.val (netD n rs)), some (.val (.int s)), some (.val (.int g)), some (.val (.int c)), x4, some (.val (.int A)), some (.val (.int B)), some (.val (.int r.one)), some (.val (.int r.other)), some (.val (.int r.cost)), some (.val (.int r.time)), x11, x12] []
      = .next [some (.val (netD n rs)), some (.val (.int s)), some (.val (.int g)), some (.val (.int c)), x4, some (.val (.int (A + firstR rs g c s r))), some (.val (.int (B + lastR rs g c s r))), some (.val (.int r.one)), some (.val (.int r.other)), some (.val (.int r.cost)), some (.val (.int r.time)), x11, x12] [] := by
  have i1 : ((r.one : Int) = s) = (r.one = s) := by apply propext; omega
  have i2 : ((r.other : Int) = g) = (r.other = g) := by apply propext; omega
  have i3 : ((r.cost : Int) ≤ c) = (r.cost ≤ c) := by apply propext; omega
  unfold firstR lastR
  by_cases q : r.cost ≤ c
  · have w2 : (c : Int) - r.cost = ((c - r.cost : Nat) : Int) := by omega
    by_cases q1 : r.one = s
    · subst q1
      by_cases q2 : r.other = g
      · subst q2
        simp [l__law_right_1, i1, i2, i3, q, w2, e_count h hr.other hg (show c - r.cost ≤ 600 by omega), e_count h hs hr.one (show c - r.cost ≤ 600 by omega)]
      · simp [l__law_right_1, i1, i2, i3, q, w2, q2, e_count h hr.other hg (show c - r.cost ≤ 600 by omega), e_count h hs hr.one (show c - r.cost ≤ 600 by omega)]
    · by_cases q2 : r.other = g
      · subst q2
        simp [l__law_right_1, i1, i2, i3, q, w2, q1, e_count h hr.other hg (show c - r.cost ≤ 600 by omega), e_count h hs hr.one (show c - r.cost ≤ 600 by omega)]
      · simp [l__law_right_1, i1, i2, i3, q, w2, q1, q2, e_count h hr.other hg (show c - r.cost ≤ 600 by omega), e_count h hs hr.one (show c - r.cost ≤ 600 by omega)]
  · simp [l__law_right_1, i1, i2, i3, q]
theorem e_rturns {n s g c : Nat} {rs : List Road} {x4 : PyData} (h : NetOk n rs) (hs : s < n) (hg : g < n) (hc : c ≤ 600) : ∀ (qs : List Road) (A B : Int) (y1 y2 y3 y4 : Option Sl), (∀ r ∈ qs, r.Ok n) →
    ∃ z1 z2 z3 z4, loopF (.tp [.nm 7, .nm 8, .nm 9, .nm 10]) l__law_right_1 0 (qs.map Road.d) [some (.val (netD n rs)), some (.val (.int s)), some (.val (.int g)), some (.val (.int c)), some (.val x4), some (.val (.int A)), some (.val (.int B)), y1, y2, y3, y4, none, none] []
      = .next [some (.val (netD n rs)), some (.val (.int s)), some (.val (.int g)), some (.val (.int c)), some (.val x4), some (.val (.int (A + Sg qs (firstR rs g c s)))), some (.val (.int (B + Sg qs (lastR rs g c s)))), z1, z2, z3, z4, none, none] []
  | [], A, B, y1, y2, y3, y4, _ => ⟨y1, y2, y3, y4, by simp [loopF, Sg]⟩
  | r :: qs, A, B, y1, y2, y3, y4, hr => by
    obtain ⟨z1, z2, z3, z4, e⟩ := e_rturns h hs hg hc qs (A + firstR rs g c s r) (B + lastR rs g c s r) (some (.val (.int r.one))) (some (.val (.int r.other))) (some (.val (.int r.cost))) (some (.val (.int r.time))) fun x m => hr x (List.mem_cons_of_mem _ m)
    refine ⟨z1, z2, z3, z4, ?_⟩
    rw [Sg_cons, Sg_cons, ← Int.add_assoc, ← Int.add_assoc, ← e, List.map_cons]
    conv => lhs; unfold loopF
    simp only [Road.d, v_putT, v_putsC, v_putsN, List.set_cons_succ, List.set_cons_zero]
    rw [e_rturn h hs hg hc (hr r List.mem_cons_self)]
    simp
theorem ne3 {a b c d e f : Int} {h : Hs} (h1 : a = d) (h2 : b = e) (h3 : c = f) : gNe (.val (.list [.int a, .int b, .int c])) (.val (.list [.int d, .int e, .int f])) h = some (.bool false) := by
  subst h1 h2 h3
  show some (PyData.bool (!((a == a) && ((b == b) && ((c == c) && true))))) = _
  simp
theorem e_right {n s g c : Nat} {rs : List Road} (h : NetOk n rs) (hs : s < n) (hg : g < n) (hc : c ≤ 600) : m__law_right [netD n rs, .int s, .int g, .int c] [] = .ok (.bool true) [] := by
  have i0 : ((c : Int) = 0) = (c = 0) := by apply propext; omega
  have i1 : ((s : Int) = g) = (s = g) := by apply propext; omega
  have lr := h.len
  simp [m__law_right, b__law_right, e_count h hs hg hc, i0, i1]
  obtain ⟨z1, z2, z3, z4, e⟩ := e_rturns (x4 := .int (cnt rs g c s)) h hs hg hc rs (if c = 0 ∧ s = g then 1 else 0) (if c = 0 ∧ s = g then 1 else 0) none none none none h.all
  have e1 : ∀ (env : En), (netD n rs) = .tuple [.int n, .tuple (rs.map Road.d)] := fun _ => rfl
  simp only [netD] at e ⊢
  simp
  rw [e]
  simp
  rw [comp_map (dd := Road.d) (w := fun r : Road => r.flip.d) (fun z => by simp only [Road.d, v_putT, v_putsC, v_putsN, List.set_cons_succ, List.set_cons_zero]; rfl) (fun z => rfl) rs [] (fun z m => by simp [line_s, Road.flip, Road.d]) (by simp; omega)]
  have p := h.pos
  have f1 : m_count_of [.tuple [.int n, .tuple (rs.map fun r => r.flip.d)], .int g, .int s, .int c] [] = .ok (.int (cnt rs g c s)) [] := by
    have w := e_count h.flip hg hs hc
    rw [cnt_flip p (c + 1) c g s (by omega), netD, List.map_map] at w
    exact w
  have f2 : m_count_of [.tuple [.int n, .tuple (rs.map Road.d).reverse], .int s, .int g, .int c] [] = .ok (.int (cnt rs g c s)) [] := by
    have w := e_count h.rev hs hg hc
    rw [cnt_rev p (c + 1) c g s (by omega), netD, List.map_reverse] at w
    exact w
  have f3 : m_count_to [.tuple [.int n, .tuple (rs.map Road.d)], .int s, .int g, .int c] [] = .ok (.int (cntTo rs g c s)) [] := e_countTo h hs hg hc
  have d1 := (cnt_first p g c s).symm
  have d2 := (cnt_last p (c + 1) c g s (by omega)).symm
  have n3 := fun hh : Hs => ne3 (h := hh) (a := cnt rs g c s) (b := cnt rs g c s) (c := cnt rs g c s) (f := cnt rs g c s) d1.symm d2.symm rfl
  unfold firstR lastR
  simp [line_s, f1, f2, f3, n3]
  by_cases q : c = 0
  · have q0 : ¬ (0 : Int) < c := by omega
    have q1 : cntTo rs g c s = cnt rs g c s := by subst q; exact cntTo_zero
    simp [q0, show ¬ 0 < c by omega, f2, f3, line_s, q1]
  · have q0 : (0 : Int) < c := by omega
    have w2 : (c : Int) - 1 = ((c - 1 : Nat) : Int) := by omega
    have f4 : m_count_to [.tuple [.int n, .tuple (rs.map Road.d)], .int s, .int g, .int (c - 1 : Nat)] [] = .ok (.int (cntTo rs g (c - 1) s)) [] := e_countTo h hs hg (by omega)
    simp [q0, w2, f4, cntTo_succ (show 0 < c by omega), f2, f3, n3, line_s, show 0 < c by omega]
theorem e_lturns {n s g : Nat} {rs : List Road} {st : Dr} {x0 x1 : PyData} (h : NetOk n rs) (hs : s < n) (hg : g < n) : ∀ (cs : List Nat) (y : Option Sl), (∀ c ∈ cs, c ≤ 600) →
    ∃ z, loopF (.nm 6) l_law_1 1 (cs.map fun c : Nat => .int c) [some (.val x0), some (.val x1), some (.loc 0), some (.val (netD n rs)), some (.val (.int s)), some (.val (.int g)), y] [st.o]
      = .next [some (.val x0), some (.val x1), some (.loc 0), some (.val (netD n rs)), some (.val (.int s)), some (.val (.int g)), z] [st.o]
  | [], y, _ => ⟨y, rfl⟩
  | c :: cs, y, hc => by
    obtain ⟨z, e⟩ := e_lturns h hs hg cs (some (.val (.int c))) fun x m => hc x (List.mem_cons_of_mem _ m)
    refine ⟨z, ?_⟩
    rw [← e, List.map_cons]
    conv => lhs; unfold loopF
    simp [l_law_1, e_right h hs hg (hc c List.mem_cons_self)]
theorem e_turnL {ns : List Int} {k : Nat} {y2 y3 y4 y5 y6 : Option Sl} : ∃ z3 z4 z5 z6 hh, l_law_2 [some (.val (.list (ns.map .int))), some (.val (.int k)), y2, y3, y4, y5, y6] [] = .next [some (.val (.list (ns.map .int))), some (.val (.int k)), some (.loc 0), z3, z4, z5, z6] hh := by
  obtain ⟨n, rs, s1, hn, _, _, e1⟩ := c_net (s := stOf (ns[k]?.getD 0)) (a := 10) (b := 30) (r := []) ⟨by omega, by omega⟩ (by omega)
  obtain ⟨a, b, s2, ha, hb, e2⟩ := c_ends (s := s1) (r := []) hn
  have t1 := tk_nn (s := s2) (show (0 : Int) < 30 by decide)
  have t2 := tk_lt (s := s2) (show (0 : Int) < 30 by decide)
  have t3 := tk_nn (s := s2.nx 30) (show (0 : Int) < 201 by decide)
  have t4 := tk_lt (s := s2.nx 30) (show (0 : Int) < 201 by decide)
  obtain ⟨c1, h1⟩ : ∃ c : Nat, s2.tk 30 = c := ⟨(s2.tk 30).toNat, by omega⟩
  obtain ⟨c2, h2⟩ : ∃ c : Nat, (s2.nx 30).tk 201 = c := ⟨((s2.nx 30).tk 201).toNat, by omega⟩
  obtain ⟨z, e3⟩ := e_lturns (st := (s2.nx 30).nx 201) (x0 := .list (ns.map .int)) (x1 := .int k) hn ha hb [0, 1, c1, c2] y6 (by simp; omega)
  have e1' : callF m__law_net [true, false, false] false [.loc 0, .val (.int 10), .val (.int 30)] [(stOf (ns[k]?.getD 0)).o] = .ok (.val (netD n rs)) [s1.o] := e1
  refine ⟨some (.val (netD n rs)), some (.val (.int a)), some (.val (.int b)), z, [((s2.nx 30).nx 201).o], ?_⟩
  simp [l_law_2, c_state, e1', e2, line_s, h1, h2]
  simp at e3
  rw [e3]
theorem e_turnsL {ns : List Int} : ∀ (ks : List Nat) (y1 y2 y3 y4 y5 y6 : Option Sl), ∃ z1 z2 z3 z4 z5 z6, loopF (.nm 1) l_law_2 0 (ks.map fun k : Nat => .int k) [some (.val (.list (ns.map .int))), y1, y2, y3, y4, y5, y6] [] = .next [some (.val (.list (ns.map .int))), z1, z2, z3, z4, z5, z6] []
  | [], y1, y2, y3, y4, y5, y6 => ⟨y1, y2, y3, y4, y5, y6, rfl⟩
  | k :: ks, y1, y2, y3, y4, y5, y6 => by
    obtain ⟨u3, u4, u5, u6, hh, e⟩ := e_turnL (ns := ns) (k := k) (y2 := y2) (y3 := y3) (y4 := y4) (y5 := y5) (y6 := y6)
    rw [List.map_cons]
    unfold loopF
    simp only [v_putN, List.set_cons_succ, List.set_cons_zero]
    rw [e]
    exact e_turnsL ks _ _ _ _ _ _
theorem law_true (ns : List Int) (h : ns.length ≤ 63) : ∃ h', m_law [.list (ns.map PyData.int)] [] = .ok (.bool true) h' := by
  obtain ⟨k, hk⟩ : ∃ k : Nat, max 1 (min (ns.length : Int) 2) = k := ⟨(max 1 (min (ns.length : Int) 2)).toNat, by omega⟩
  obtain ⟨z1, z2, z3, z4, z5, z6, e⟩ := e_turnsL (ns := ns) (List.range k) none none none none none none
  refine ⟨[], ?_⟩
  simp [m_law, b_law, hk]
  rw [v_rng1 (by omega) (by omega)]
  simp [upTo]
  rw [e]
  simp
end FL

namespace FL
open PySem PySem.Spec PyProof.Rows L2
def topS (i : Nat) : Stmt := PySem.Challenge.pw_waysranked_k25_whole_counts_join.main.body.getD i (.Pass ⟨0, 0, 0, 0⟩)
structure Tx (mg : Str → Option Value) : Prop where
  n_all : mg "all" = none
  n_bool : mg "bool" = none
  n_int : mg "int" = none
  n_isinstance : mg "isinstance" = none
  n_len : mg "len" = none
  n_max : mg "max" = none
  n_min : mg "min" = none
  n_range : mg "range" = none
  n_sum : mg "sum" = none
  n_tuple : mg "tuple" = none
  c_MOST_COST_nets : ∃ t, mg "MOST_COST_nets" = some (.int 99 t)
  c_MOST_COST_walks : ∃ t, mg "MOST_COST_walks" = some (.int 600 t)
  c_MOST_PLACES : ∃ t, mg "MOST_PLACES" = some (.int 10 t)
  c_MOST_ROADS : ∃ t, mg "MOST_ROADS" = some (.int 30 t)
  c_MOST_TIME : ∃ t, mg "MOST_TIME" = some (.int 99 t)
/-- a def that keeps its promise -/
structure Cal (P : Program) (w : World) (K : PySem.W.Frag) (mg : Str → Option Value) (base : Heap) (x : Str) (k : Nat) (ps : List Str) (sp : Sp) : Prop where
  ex : ∃ (f : Addr) (fd : FuncData), FnG P w K mg base (L2.CX P w) k f fd ps sp ∧ mg x = some (.ref f) ∧ PySem.W.keepIn K (.ref f) = true ∧ Binds K fd ps []
section
variable {P : Program} {w : World} {K : PySem.W.Frag} {mg : Str → Option Value} {base : Heap}
abbrev s_is_among : Stmt := topS 7
abbrev N_is_among : List Str := ["thing", "least", "most"]
theorem sc_is_among : FnScope N_is_among ["thing", "least", "most"] (defScope s_is_among) := ⟨rfl, rfl, rfl, by decide +kernel, rfl, by decide +kernel, by decide +kernel⟩
abbrev Q_is_among (P : Program) (w : World) (K : PySem.W.Frag) (mg : Str → Option Value) (base : Heap) : Prop := Cal P w K mg base "is_among" 1 ["thing", "least", "most"] (spOf K mg false [false, false, false] m_is_among)
theorem own_is_among {f : Addr} {fd : FuncData} (T : Tx mg) (F : Fun K "is_among" "is_among" s_is_among f fd) : FnG P w K mg base (L2.CX P w) 1 f fd ["thing", "least", "most"] (spOf K mg false [false, false, false] m_is_among) := by
  refine fnD false [false, false, false] F sc_is_among rfl ?_
  intro cdv A outer s H E C hgd hr
  have tk := takes_of (X := cxOf (L2.CX P w) P w K mg base N_is_among "is_among" (defScope s_is_among) f cdv A outer s H E) (E := E) rfl rfl rfl rfl
  have hp := passes_of (X := cxOf (L2.CX P w) P w K mg base N_is_among "is_among" (defScope s_is_among) f cdv A outer s H E) rfl
  exact (fss_one (fs_ret (fe_and (fe_isa (c := "int") (by decide) (by rfl) T.n_isinstance (by rfl) T.n_int (by decide +kernel) (fe_var 0)) (fe_and (fe_not (fe_isa (c := "bool") (by decide) (by rfl) T.n_isinstance (by rfl) T.n_bool (by decide +kernel) (fe_var 0))) (fe_one (fe_chain o_le o_le (fe_var 1) (fe_var 0) (fe_var 2)))))))
theorem ok_is_among {f : Addr} {fd : FuncData} (T : Tx mg) (F : Fun K "is_among" "is_among" s_is_among f fd) (hm : mg "is_among" = some (.ref f)) : Q_is_among P w K mg base :=
  ⟨⟨f, fd, own_is_among T F, hm, F.kp, F.binds fun _ _ _ _ _ _ us hl => match us, hl with | [_, _, _], _ => rfl⟩⟩
abbrev s_is_road : Stmt := topS 13
abbrev N_is_road : List Str := ["thing", "places", "one", "other", "cost", "time", "end"]
theorem sc_is_road : FnScope N_is_road ["thing", "places"] (defScope s_is_road) := ⟨rfl, rfl, rfl, by decide +kernel, rfl, by decide +kernel, by decide +kernel⟩
abbrev Q_is_road (P : Program) (w : World) (K : PySem.W.Frag) (mg : Str → Option Value) (base : Heap) : Prop := Cal P w K mg base "is_road" 2 ["thing", "places"] (spOf K mg false [false, false] m_is_road)
theorem own_is_road {f : Addr} {fd : FuncData} (T : Tx mg) (g_is_among : Q_is_among P w K mg base) (F : Fun K "is_road" "is_road" s_is_road f fd) : FnG P w K mg base (L2.CX P w) 2 f fd ["thing", "places"] (spOf K mg false [false, false] m_is_road) := by
  obtain ⟨f_is_among, fd_is_among, G_is_among, mg_is_among, kp_is_among, b_is_among⟩ := g_is_among.ex
  refine fnD false [false, false] F sc_is_road rfl ?_
  intro cdv A outer s H E C hgd hr
  have tk := takes_of (X := cxOf (L2.CX P w) P w K mg base N_is_road "is_road" (defScope s_is_road) f cdv A outer s H E) (E := E) rfl rfl rfl rfl
  have hp := passes_of (X := cxOf (L2.CX P w) P w K mg base N_is_road "is_road" (defScope s_is_road) f cdv A outer s H E) rfl
  exact (fss_cons (fs_if (ft_w (fw_or (ft_not (ft_val (fe_isa (c := "tuple") (by decide) (by rfl) T.n_isinstance (by rfl) T.n_tuple (by decide +kernel) (fe_var 0)))) (fw_or (ft_cmp (o_ne hr.units) (fe_callB c_len (by rfl) T.n_len (by decide +kernel) (fa_cons (fe_var 0) fa_nil)) fe_int (nomark _)) (fw_or1 (ft_not (ft_val (fe_callB (c_all rfl) (by rfl) T.n_all (by decide +kernel) (fa_cons (fe_comp (own := [("end", 6)]) rfl sc_is_road.nd (fi_seq (fe_slice (fe_var 0) fo_none (fo_some fe_int))) (blkOk_by (own := [("end", 6)]) (N := N_is_road) (sc := defScope s_is_road) (by decide +kernel)) (fun _ _ _ _ _ => (fg_nm sc_is_road.nd rfl (by first | exact Or.inl rfl | exact Or.inr rfl))) (fun _ _ _ _ _ _ => fts_nil) (fun _ _ _ _ _ _ => (fe_call G_is_among hgd (hr.mono (by decide : 1 ≤ 1)) takes0 (by rfl) mg_is_among kp_is_among b_is_among (fa_cons (fe_var 6) (fa_cons fe_int (fa_cons (fe_op o_sub (fe_var 1) fe_int) fa_nil)))))) fa_nil)))))))) (fss_one (fs_ret fe_bl)) fss_nil)
      (fss_cons (fs_asg (fe_var 0) (fg_tp rfl (fgs_cons (fg_nm sc_is_road.nd rfl (by first | exact Or.inl rfl | exact Or.inr rfl)) (fgs_cons (fg_nm sc_is_road.nd rfl (by first | exact Or.inl rfl | exact Or.inr rfl)) (fgs_cons (fg_nm sc_is_road.nd rfl (by first | exact Or.inl rfl | exact Or.inr rfl)) (fgs_cons (fg_nm sc_is_road.nd rfl (by first | exact Or.inl rfl | exact Or.inr rfl)) fgs_nil))))))
      (fss_one (fs_ret (fe_and (fe_cmp (o_ne hr.units) (fe_var 2) (fe_var 3) (nomark _)) (fe_and (fe_call G_is_among hgd (hr.mono (by decide : 1 ≤ 1)) tk (by rfl) mg_is_among kp_is_among b_is_among (fa_cons (fe_var 4) (fa_cons fe_int (fa_cons (fe_globI (by rfl) T.c_MOST_COST_nets) fa_nil)))) (fe_one (fe_call G_is_among hgd (hr.mono (by decide : 1 ≤ 1)) tk (by rfl) mg_is_among kp_is_among b_is_among (fa_cons (fe_var 5) (fa_cons fe_int (fa_cons (fe_globI (by rfl) T.c_MOST_TIME) fa_nil)))))))))))
theorem ok_is_road {f : Addr} {fd : FuncData} (T : Tx mg) (g_is_among : Q_is_among P w K mg base) (F : Fun K "is_road" "is_road" s_is_road f fd) (hm : mg "is_road" = some (.ref f)) : Q_is_road P w K mg base :=
  ⟨⟨f, fd, own_is_road T g_is_among F, hm, F.kp, F.binds fun _ _ _ _ _ _ us hl => match us, hl with | [_, _], _ => rfl⟩⟩
abbrev s_is_net : Stmt := topS 14
abbrev N_is_net : List Str := ["thing", "places", "roads", "one"]
theorem sc_is_net : FnScope N_is_net ["thing"] (defScope s_is_net) := ⟨rfl, rfl, rfl, by decide +kernel, rfl, by decide +kernel, by decide +kernel⟩
abbrev Q_is_net (P : Program) (w : World) (K : PySem.W.Frag) (mg : Str → Option Value) (base : Heap) : Prop := Cal P w K mg base "is_net" 3 ["thing"] (spOf K mg false [false] m_is_net)
theorem own_is_net {f : Addr} {fd : FuncData} (T : Tx mg) (g_is_among : Q_is_among P w K mg base) (g_is_road : Q_is_road P w K mg base) (F : Fun K "is_net" "is_net" s_is_net f fd) : FnG P w K mg base (L2.CX P w) 3 f fd ["thing"] (spOf K mg false [false] m_is_net) := by
  obtain ⟨f_is_among, fd_is_among, G_is_among, mg_is_among, kp_is_among, b_is_among⟩ := g_is_among.ex
  obtain ⟨f_is_road, fd_is_road, G_is_road, mg_is_road, kp_is_road, b_is_road⟩ := g_is_road.ex
  refine fnD false [false] F sc_is_net rfl ?_
  intro cdv A outer s H E C hgd hr
  have tk := takes_of (X := cxOf (L2.CX P w) P w K mg base N_is_net "is_net" (defScope s_is_net) f cdv A outer s H E) (E := E) rfl rfl rfl rfl
  have hp := passes_of (X := cxOf (L2.CX P w) P w K mg base N_is_net "is_net" (defScope s_is_net) f cdv A outer s H E) rfl
  exact (fss_cons (fs_if (ft_w (fw_or (ft_not (ft_val (fe_isa (c := "tuple") (by decide) (by rfl) T.n_isinstance (by rfl) T.n_tuple (by decide +kernel) (fe_var 0)))) (fw_or (ft_cmp (o_ne hr.units) (fe_callB c_len (by rfl) T.n_len (by decide +kernel) (fa_cons (fe_var 0) fa_nil)) fe_int (nomark _)) (fw_or1 (ft_not (ft_val (fe_call G_is_among hgd (hr.mono (by decide : 1 ≤ 2)) tk (by rfl) mg_is_among kp_is_among b_is_among (fa_cons (fe_ix i_ix (fe_var 0) fe_int (fun _ _ => rfl)) (fa_cons fe_int (fa_cons (fe_globI (by rfl) T.c_MOST_PLACES) fa_nil)))))))))) (fss_one (fs_ret fe_bl)) fss_nil)
      (fss_cons (fs_asg (fe_var 0) (fg_tp rfl (fgs_cons (fg_nm sc_is_net.nd rfl (by first | exact Or.inl rfl | exact Or.inr rfl)) (fgs_cons (fg_nm sc_is_net.nd rfl (by first | exact Or.inl rfl | exact Or.inr rfl)) fgs_nil))))
      (fss_one (fs_ret (fe_and (fe_isa (c := "tuple") (by decide) (by rfl) T.n_isinstance (by rfl) T.n_tuple (by decide +kernel) (fe_var 2)) (fe_and (fe_cmp o_le (fe_callB c_len (by rfl) T.n_len (by decide +kernel) (fa_cons (fe_var 2) fa_nil)) (fe_globI (by rfl) T.c_MOST_ROADS) (nomark _)) (fe_one (fe_callB (c_all rfl) (by rfl) T.n_all (by decide +kernel) (fa_cons (fe_comp (own := [("one", 3)]) rfl sc_is_net.nd (fi_seq (fe_var 2)) (blkOk_by (own := [("one", 3)]) (N := N_is_net) (sc := defScope s_is_net) (by decide +kernel)) (fun _ _ _ _ _ => (fg_nm sc_is_net.nd rfl (by first | exact Or.inl rfl | exact Or.inr rfl))) (fun _ _ _ _ _ _ => fts_nil) (fun _ _ _ _ _ _ => (fe_call G_is_road hgd (hr.mono (by decide : 2 ≤ 2)) takes0 (by rfl) mg_is_road kp_is_road b_is_road (fa_cons (fe_var 3) (fa_cons (fe_var 1) fa_nil))))) fa_nil)))))))))
theorem ok_is_net {f : Addr} {fd : FuncData} (T : Tx mg) (g_is_among : Q_is_among P w K mg base) (g_is_road : Q_is_road P w K mg base) (F : Fun K "is_net" "is_net" s_is_net f fd) (hm : mg "is_net" = some (.ref f)) : Q_is_net P w K mg base :=
  ⟨⟨f, fd, own_is_net T g_is_among g_is_road F, hm, F.kp, F.binds fun _ _ _ _ _ _ us hl => match us, hl with | [_], _ => rfl⟩⟩
abbrev s_need_net : Stmt := topS 15
abbrev N_need_net : List Str := ["thing"]
theorem sc_need_net : FnScope N_need_net ["thing"] (defScope s_need_net) := ⟨rfl, rfl, rfl, by decide +kernel, rfl, by decide +kernel, by decide +kernel⟩
abbrev Q_need_net (P : Program) (w : World) (K : PySem.W.Frag) (mg : Str → Option Value) (base : Heap) : Prop := Cal P w K mg base "need_net" 4 ["thing"] (spOf K mg false [false] m_need_net)
theorem own_need_net {f : Addr} {fd : FuncData} (T : Tx mg) (g_is_net : Q_is_net P w K mg base) (F : Fun K "need_net" "need_net" s_need_net f fd) : FnG P w K mg base (L2.CX P w) 4 f fd ["thing"] (spOf K mg false [false] m_need_net) := by
  obtain ⟨f_is_net, fd_is_net, G_is_net, mg_is_net, kp_is_net, b_is_net⟩ := g_is_net.ex
  refine fnD false [false] F sc_need_net rfl ?_
  intro cdv A outer s H E C hgd hr
  have tk := takes_of (X := cxOf (L2.CX P w) P w K mg base N_need_net "need_net" (defScope s_need_net) f cdv A outer s H E) (E := E) rfl rfl rfl rfl
  have hp := passes_of (X := cxOf (L2.CX P w) P w K mg base N_need_net "need_net" (defScope s_need_net) f cdv A outer s H E) rfl
  exact (fss_one (fs_if (ft_not (ft_val (fe_call G_is_net hgd (hr.mono (by decide : 3 ≤ 3)) tk (by rfl) mg_is_net kp_is_net b_is_net (fa_cons (fe_var 0) fa_nil)))) (fss_one fs_never) fss_nil))
theorem ok_need_net {f : Addr} {fd : FuncData} (T : Tx mg) (g_is_net : Q_is_net P w K mg base) (F : Fun K "need_net" "need_net" s_need_net f fd) (hm : mg "need_net" = some (.ref f)) : Q_need_net P w K mg base :=
  ⟨⟨f, fd, own_need_net T g_is_net F, hm, F.kp, F.binds fun _ _ _ _ _ _ us hl => match us, hl with | [_], _ => rfl⟩⟩
abbrev s_is_place : Stmt := topS 16
abbrev N_is_place : List Str := ["net", "thing"]
theorem sc_is_place : FnScope N_is_place ["net", "thing"] (defScope s_is_place) := ⟨rfl, rfl, rfl, by decide +kernel, rfl, by decide +kernel, by decide +kernel⟩
abbrev Q_is_place (P : Program) (w : World) (K : PySem.W.Frag) (mg : Str → Option Value) (base : Heap) : Prop := Cal P w K mg base "is_place" 2 ["net", "thing"] (spOf K mg false [false, false] m_is_place)
theorem own_is_place {f : Addr} {fd : FuncData} (T : Tx mg) (g_is_among : Q_is_among P w K mg base) (F : Fun K "is_place" "is_place" s_is_place f fd) : FnG P w K mg base (L2.CX P w) 2 f fd ["net", "thing"] (spOf K mg false [false, false] m_is_place) := by
  obtain ⟨f_is_among, fd_is_among, G_is_among, mg_is_among, kp_is_among, b_is_among⟩ := g_is_among.ex
  refine fnD false [false, false] F sc_is_place rfl ?_
  intro cdv A outer s H E C hgd hr
  have tk := takes_of (X := cxOf (L2.CX P w) P w K mg base N_is_place "is_place" (defScope s_is_place) f cdv A outer s H E) (E := E) rfl rfl rfl rfl
  have hp := passes_of (X := cxOf (L2.CX P w) P w K mg base N_is_place "is_place" (defScope s_is_place) f cdv A outer s H E) rfl
  exact (fss_one (fs_ret (fe_call G_is_among hgd (hr.mono (by decide : 1 ≤ 1)) tk (by rfl) mg_is_among kp_is_among b_is_among (fa_cons (fe_var 1) (fa_cons fe_int (fa_cons (fe_op o_sub (fe_ix i_ix (fe_var 0) fe_int (fun _ _ => rfl)) fe_int) fa_nil))))))
theorem ok_is_place {f : Addr} {fd : FuncData} (T : Tx mg) (g_is_among : Q_is_among P w K mg base) (F : Fun K "is_place" "is_place" s_is_place f fd) (hm : mg "is_place" = some (.ref f)) : Q_is_place P w K mg base :=
  ⟨⟨f, fd, own_is_place T g_is_among F, hm, F.kp, F.binds fun _ _ _ _ _ _ us hl => match us, hl with | [_, _], _ => rfl⟩⟩
abbrev s_need_place : Stmt := topS 17
abbrev N_need_place : List Str := ["net", "thing"]
theorem sc_need_place : FnScope N_need_place ["net", "thing"] (defScope s_need_place) := ⟨rfl, rfl, rfl, by decide +kernel, rfl, by decide +kernel, by decide +kernel⟩
abbrev Q_need_place (P : Program) (w : World) (K : PySem.W.Frag) (mg : Str → Option Value) (base : Heap) : Prop := Cal P w K mg base "need_place" 3 ["net", "thing"] (spOf K mg false [false, false] m_need_place)
theorem own_need_place {f : Addr} {fd : FuncData} (T : Tx mg) (g_is_place : Q_is_place P w K mg base) (F : Fun K "need_place" "need_place" s_need_place f fd) : FnG P w K mg base (L2.CX P w) 3 f fd ["net", "thing"] (spOf K mg false [false, false] m_need_place) := by
  obtain ⟨f_is_place, fd_is_place, G_is_place, mg_is_place, kp_is_place, b_is_place⟩ := g_is_place.ex
  refine fnD false [false, false] F sc_need_place rfl ?_
  intro cdv A outer s H E C hgd hr
  have tk := takes_of (X := cxOf (L2.CX P w) P w K mg base N_need_place "need_place" (defScope s_need_place) f cdv A outer s H E) (E := E) rfl rfl rfl rfl
  have hp := passes_of (X := cxOf (L2.CX P w) P w K mg base N_need_place "need_place" (defScope s_need_place) f cdv A outer s H E) rfl
  exact (fss_one (fs_if (ft_not (ft_val (fe_call G_is_place hgd (hr.mono (by decide : 2 ≤ 2)) tk (by rfl) mg_is_place kp_is_place b_is_place (fa_cons (fe_var 0) (fa_cons (fe_var 1) fa_nil))))) (fss_one fs_never) fss_nil))
theorem ok_need_place {f : Addr} {fd : FuncData} (T : Tx mg) (g_is_place : Q_is_place P w K mg base) (F : Fun K "need_place" "need_place" s_need_place f fd) (hm : mg "need_place" = some (.ref f)) : Q_need_place P w K mg base :=
  ⟨⟨f, fd, own_need_place T g_is_place F, hm, F.kp, F.binds fun _ _ _ _ _ _ us hl => match us, hl with | [_, _], _ => rfl⟩⟩
abbrev s_need_ends : Stmt := topS 18
abbrev N_need_ends : List Str := ["net", "start", "goal"]
theorem sc_need_ends : FnScope N_need_ends ["net", "start", "goal"] (defScope s_need_ends) := ⟨rfl, rfl, rfl, by decide +kernel, rfl, by decide +kernel, by decide +kernel⟩
abbrev Q_need_ends (P : Program) (w : World) (K : PySem.W.Frag) (mg : Str → Option Value) (base : Heap) : Prop := Cal P w K mg base "need_ends" 5 ["net", "start", "goal"] (spOf K mg false [false, false, false] m_need_ends)
theorem own_need_ends {f : Addr} {fd : FuncData} (T : Tx mg) (g_need_net : Q_need_net P w K mg base) (g_need_place : Q_need_place P w K mg base) (F : Fun K "need_ends" "need_ends" s_need_ends f fd) : FnG P w K mg base (L2.CX P w) 5 f fd ["net", "start", "goal"] (spOf K mg false [false, false, false] m_need_ends) := by
  obtain ⟨f_need_net, fd_need_net, G_need_net, mg_need_net, kp_need_net, b_need_net⟩ := g_need_net.ex
  obtain ⟨f_need_place, fd_need_place, G_need_place, mg_need_place, kp_need_place, b_need_place⟩ := g_need_place.ex
  refine fnD false [false, false, false] F sc_need_ends rfl ?_
  intro cdv A outer s H E C hgd hr
  have tk := takes_of (X := cxOf (L2.CX P w) P w K mg base N_need_ends "need_ends" (defScope s_need_ends) f cdv A outer s H E) (E := E) rfl rfl rfl rfl
  have hp := passes_of (X := cxOf (L2.CX P w) P w K mg base N_need_ends "need_ends" (defScope s_need_ends) f cdv A outer s H E) rfl
  exact (fss_cons (fs_exp (fe_call G_need_net hgd (hr.mono (by decide : 4 ≤ 4)) tk (by rfl) mg_need_net kp_need_net b_need_net (fa_cons (fe_var 0) fa_nil)))
      (fss_cons (fs_exp (fe_call G_need_place hgd (hr.mono (by decide : 3 ≤ 4)) tk (by rfl) mg_need_place kp_need_place b_need_place (fa_cons (fe_var 0) (fa_cons (fe_var 1) fa_nil))))
      (fss_one (fs_exp (fe_call G_need_place hgd (hr.mono (by decide : 3 ≤ 4)) tk (by rfl) mg_need_place kp_need_place b_need_place (fa_cons (fe_var 0) (fa_cons (fe_var 2) fa_nil)))))))
theorem ok_need_ends {f : Addr} {fd : FuncData} (T : Tx mg) (g_need_net : Q_need_net P w K mg base) (g_need_place : Q_need_place P w K mg base) (F : Fun K "need_ends" "need_ends" s_need_ends f fd) (hm : mg "need_ends" = some (.ref f)) : Q_need_ends P w K mg base :=
  ⟨⟨f, fd, own_need_ends T g_need_net g_need_place F, hm, F.kp, F.binds fun _ _ _ _ _ _ us hl => match us, hl with | [_, _, _], _ => rfl⟩⟩
abbrev s_next_row : Stmt := topS 21
abbrev N_next_row : List Str := ["net", "goal", "rows", "places", "roads", "cost", "found", "one", "other", "price", "time", "place"]
theorem sc_next_row : FnScope N_next_row ["net", "goal", "rows"] (defScope s_next_row) := ⟨rfl, rfl, rfl, by decide +kernel, rfl, by decide +kernel, by decide +kernel⟩
abbrev Q_next_row (P : Program) (w : World) (K : PySem.W.Frag) (mg : Str → Option Value) (base : Heap) : Prop := Cal P w K mg base "next_row" 1 ["net", "goal", "rows"] (spOf K mg true [false, false, false] m_next_row)
theorem own_next_row {f : Addr} {fd : FuncData} (T : Tx mg) (F : Fun K "next_row" "next_row" s_next_row f fd) : FnG P w K mg base (L2.CX P w) 1 f fd ["net", "goal", "rows"] (spOf K mg true [false, false, false] m_next_row) := by
  refine fnD true [false, false, false] F sc_next_row rfl ?_
  intro cdv A outer s H E C hgd hr
  have tk := takes_of (X := cxOf (L2.CX P w) P w K mg base N_next_row "next_row" (defScope s_next_row) f cdv A outer s H E) (E := E) rfl rfl rfl rfl
  have hp := passes_of (X := cxOf (L2.CX P w) P w K mg base N_next_row "next_row" (defScope s_next_row) f cdv A outer s H E) rfl
  exact (fss_cons (fs_asg (fe_var 0) (fg_tp rfl (fgs_cons (fg_nm sc_next_row.nd rfl (by first | exact Or.inl rfl | exact Or.inr rfl)) (fgs_cons (fg_nm sc_next_row.nd rfl (by first | exact Or.inl rfl | exact Or.inr rfl)) fgs_nil))))
      (fss_cons (fs_set (i := 5) sc_next_row.nd rfl (by first | exact Or.inl rfl | exact Or.inr rfl) (fe_callB c_len (by rfl) T.n_len (by decide +kernel) (fa_cons (fe_var 2) fa_nil)))
      (fss_cons (fs_setLcN (own := [("place", 11)]) (i := 6) rfl sc_next_row.nd rfl rfl (sw_true rfl rfl rfl (by decide +kernel)) (fi_rng1 (by rfl) T.n_range (fa_cons (fe_var 3) fa_nil)) (blkOk_by (own := [("place", 11)]) (N := N_next_row) (sc := defScope s_next_row) (by decide +kernel)) (fun _ _ _ _ _ => (fg_nm sc_next_row.nd rfl (by first | exact Or.inl rfl | exact Or.inr rfl))) (fun _ _ _ _ _ _ => fts_nil) (fun _ _ _ _ _ _ => (fe_callTy c_int (by rfl) T.n_int (by decide +kernel) (fa_cons (fe_and (fe_cmp (o_eq hr.units) (fe_var 5) fe_int (nomark _)) (fe_one (fe_cmp (o_eq hr.units) (fe_var 11) (fe_var 1) (nomark _)))) fa_nil))))
      (fss_cons (fs_for hp rfl (fi_seq (fe_var 4)) (fg_tp rfl (fgs_cons (fg_nm sc_next_row.nd rfl (by first | exact Or.inl rfl | exact Or.inr rfl)) (fgs_cons (fg_nm sc_next_row.nd rfl (by first | exact Or.inl rfl | exact Or.inr rfl)) (fgs_cons (fg_nm sc_next_row.nd rfl (by first | exact Or.inl rfl | exact Or.inr rfl)) (fgs_cons (fg_nm sc_next_row.nd rfl (by first | exact Or.inl rfl | exact Or.inr rfl)) fgs_nil))))) (fss_one (fs_if (ft_cmp o_le (fe_var 9) (fe_var 5) (nomark _)) (fss_one (fs_augIx (fe_var 6) (fe_var 7) (fe_ix i_ix (fe_ix i_ix (fe_var 2) (fe_op o_sub (fe_var 5) (fe_var 9)) (fun _ _ => rfl)) (fe_var 8) (fun _ _ => rfl)) io_addI)) fss_nil)))
      (fss_one (fs_ret (fe_var 6)))))))
theorem ok_next_row {f : Addr} {fd : FuncData} (T : Tx mg) (F : Fun K "next_row" "next_row" s_next_row f fd) (hm : mg "next_row" = some (.ref f)) : Q_next_row P w K mg base :=
  ⟨⟨f, fd, own_next_row T F, hm, F.kp, F.binds fun _ _ _ _ _ _ us hl => match us, hl with | [_, _, _], _ => rfl⟩⟩
abbrev s_rows_to : Stmt := topS 22
abbrev N_rows_to : List Str := ["net", "goal", "cost", "rows"]
theorem sc_rows_to : FnScope N_rows_to ["net", "goal", "cost"] (defScope s_rows_to) := ⟨rfl, rfl, rfl, by decide +kernel, rfl, by decide +kernel, by decide +kernel⟩
abbrev Q_rows_to (P : Program) (w : World) (K : PySem.W.Frag) (mg : Str → Option Value) (base : Heap) : Prop := Cal P w K mg base "rows_to" 2 ["net", "goal", "cost"] (spOf K mg false [false, false, false] m_rows_to)
theorem own_rows_to {f : Addr} {fd : FuncData} (T : Tx mg) (g_next_row : Q_next_row P w K mg base) (F : Fun K "rows_to" "rows_to" s_rows_to f fd) : FnG P w K mg base (L2.CX P w) 2 f fd ["net", "goal", "cost"] (spOf K mg false [false, false, false] m_rows_to) := by
  obtain ⟨f_next_row, fd_next_row, G_next_row, mg_next_row, kp_next_row, b_next_row⟩ := g_next_row.ex
  refine fnD false [false, false, false] F sc_rows_to rfl ?_
  intro cdv A outer s H E C hgd hr
  have tk := takes_of (X := cxOf (L2.CX P w) P w K mg base N_rows_to "rows_to" (defScope s_rows_to) f cdv A outer s H E) (E := E) rfl rfl rfl rfl
  have hp := passes_of (X := cxOf (L2.CX P w) P w K mg base N_rows_to "rows_to" (defScope s_rows_to) f cdv A outer s H E) rfl
  exact (fss_cons (fs_set (i := 3) sc_rows_to.nd rfl (by first | exact Or.inl rfl | exact Or.inr rfl) (fe_new fa_nil))
      (fss_cons (fs_while 1000000 hp (ft_cmp o_le (fe_callB c_len (by rfl) T.n_len (by decide +kernel) (fa_cons (fe_var 3) fa_nil)) (fe_var 2) (nomark _)) (fss_one (fs_exp (fe_mt PySem.F.slot_list_append PySem.F.type_list_append m_append (fe_var 3) (fa_cons (fe_call G_next_row hgd (hr.mono (by decide : 1 ≤ 1)) tk (by rfl) mg_next_row kp_next_row b_next_row (fa_cons (fe_var 0) (fa_cons (fe_var 1) (fa_cons (fe_var 3) fa_nil)))) fa_nil)))))
      (fss_one (fs_ret (fe_var 3)))))
theorem ok_rows_to {f : Addr} {fd : FuncData} (T : Tx mg) (g_next_row : Q_next_row P w K mg base) (F : Fun K "rows_to" "rows_to" s_rows_to f fd) (hm : mg "rows_to" = some (.ref f)) : Q_rows_to P w K mg base :=
  ⟨⟨f, fd, own_rows_to T g_next_row F, hm, F.kp, F.binds fun _ _ _ _ _ _ us hl => match us, hl with | [_, _, _], _ => rfl⟩⟩
abbrev s_need_cost : Stmt := topS 23
abbrev N_need_cost : List Str := ["thing"]
theorem sc_need_cost : FnScope N_need_cost ["thing"] (defScope s_need_cost) := ⟨rfl, rfl, rfl, by decide +kernel, rfl, by decide +kernel, by decide +kernel⟩
abbrev Q_need_cost (P : Program) (w : World) (K : PySem.W.Frag) (mg : Str → Option Value) (base : Heap) : Prop := Cal P w K mg base "need_cost" 2 ["thing"] (spOf K mg false [false] m_need_cost)
theorem own_need_cost {f : Addr} {fd : FuncData} (T : Tx mg) (g_is_among : Q_is_among P w K mg base) (F : Fun K "need_cost" "need_cost" s_need_cost f fd) : FnG P w K mg base (L2.CX P w) 2 f fd ["thing"] (spOf K mg false [false] m_need_cost) := by
  obtain ⟨f_is_among, fd_is_among, G_is_among, mg_is_among, kp_is_among, b_is_among⟩ := g_is_among.ex
  refine fnD false [false] F sc_need_cost rfl ?_
  intro cdv A outer s H E C hgd hr
  have tk := takes_of (X := cxOf (L2.CX P w) P w K mg base N_need_cost "need_cost" (defScope s_need_cost) f cdv A outer s H E) (E := E) rfl rfl rfl rfl
  have hp := passes_of (X := cxOf (L2.CX P w) P w K mg base N_need_cost "need_cost" (defScope s_need_cost) f cdv A outer s H E) rfl
  exact (fss_one (fs_if (ft_not (ft_val (fe_call G_is_among hgd (hr.mono (by decide : 1 ≤ 1)) tk (by rfl) mg_is_among kp_is_among b_is_among (fa_cons (fe_var 0) (fa_cons fe_int (fa_cons (fe_globI (by rfl) T.c_MOST_COST_walks) fa_nil)))))) (fss_one fs_never) fss_nil))
theorem ok_need_cost {f : Addr} {fd : FuncData} (T : Tx mg) (g_is_among : Q_is_among P w K mg base) (F : Fun K "need_cost" "need_cost" s_need_cost f fd) (hm : mg "need_cost" = some (.ref f)) : Q_need_cost P w K mg base :=
  ⟨⟨f, fd, own_need_cost T g_is_among F, hm, F.kp, F.binds fun _ _ _ _ _ _ us hl => match us, hl with | [_], _ => rfl⟩⟩
abbrev s_count_of : Stmt := topS 24
abbrev N_count_of : List Str := ["net", "start", "goal", "cost"]
theorem sc_count_of : FnScope N_count_of ["net", "start", "goal", "cost"] (defScope s_count_of) := ⟨rfl, rfl, rfl, by decide +kernel, rfl, by decide +kernel, by decide +kernel⟩
abbrev Q_count_of (P : Program) (w : World) (K : PySem.W.Frag) (mg : Str → Option Value) (base : Heap) : Prop := Cal P w K mg base "count_of" 6 ["net", "start", "goal", "cost"] (spOf K mg false [false, false, false, false] m_count_of)
theorem own_count_of {f : Addr} {fd : FuncData} (T : Tx mg) (g_need_ends : Q_need_ends P w K mg base) (g_rows_to : Q_rows_to P w K mg base) (g_need_cost : Q_need_cost P w K mg base) (F : Fun K "count_of" "count_of" s_count_of f fd) : FnG P w K mg base (L2.CX P w) 6 f fd ["net", "start", "goal", "cost"] (spOf K mg false [false, false, false, false] m_count_of) := by
  obtain ⟨f_need_ends, fd_need_ends, G_need_ends, mg_need_ends, kp_need_ends, b_need_ends⟩ := g_need_ends.ex
  obtain ⟨f_rows_to, fd_rows_to, G_rows_to, mg_rows_to, kp_rows_to, b_rows_to⟩ := g_rows_to.ex
  obtain ⟨f_need_cost, fd_need_cost, G_need_cost, mg_need_cost, kp_need_cost, b_need_cost⟩ := g_need_cost.ex
  refine fnD false [false, false, false, false] F sc_count_of rfl ?_
  intro cdv A outer s H E C hgd hr
  have tk := takes_of (X := cxOf (L2.CX P w) P w K mg base N_count_of "count_of" (defScope s_count_of) f cdv A outer s H E) (E := E) rfl rfl rfl rfl
  have hp := passes_of (X := cxOf (L2.CX P w) P w K mg base N_count_of "count_of" (defScope s_count_of) f cdv A outer s H E) rfl
  exact (fss_cons (fs_exp (fe_call G_need_ends hgd (hr.mono (by decide : 5 ≤ 5)) tk (by rfl) mg_need_ends kp_need_ends b_need_ends (fa_cons (fe_var 0) (fa_cons (fe_var 1) (fa_cons (fe_var 2) fa_nil)))))
      (fss_cons (fs_exp (fe_call G_need_cost hgd (hr.mono (by decide : 2 ≤ 5)) tk (by rfl) mg_need_cost kp_need_cost b_need_cost (fa_cons (fe_var 3) fa_nil)))
      (fss_one (fs_ret (fe_ix i_ix (fe_ix i_ix (fe_call G_rows_to hgd (hr.mono (by decide : 2 ≤ 5)) tk (by rfl) mg_rows_to kp_rows_to b_rows_to (fa_cons (fe_var 0) (fa_cons (fe_var 2) (fa_cons (fe_var 3) fa_nil)))) (fe_var 3) (fun _ _ => rfl)) (fe_var 1) (fun _ _ => rfl))))))
theorem ok_count_of {f : Addr} {fd : FuncData} (T : Tx mg) (g_need_ends : Q_need_ends P w K mg base) (g_rows_to : Q_rows_to P w K mg base) (g_need_cost : Q_need_cost P w K mg base) (F : Fun K "count_of" "count_of" s_count_of f fd) (hm : mg "count_of" = some (.ref f)) : Q_count_of P w K mg base :=
  ⟨⟨f, fd, own_count_of T g_need_ends g_rows_to g_need_cost F, hm, F.kp, F.binds fun _ _ _ _ _ _ us hl => match us, hl with | [_, _, _, _], _ => rfl⟩⟩
abbrev s_count_to : Stmt := topS 25
abbrev N_count_to : List Str := ["net", "start", "goal", "cost", "row"]
theorem sc_count_to : FnScope N_count_to ["net", "start", "goal", "cost"] (defScope s_count_to) := ⟨rfl, rfl, rfl, by decide +kernel, rfl, by decide +kernel, by decide +kernel⟩
abbrev Q_count_to (P : Program) (w : World) (K : PySem.W.Frag) (mg : Str → Option Value) (base : Heap) : Prop := Cal P w K mg base "count_to" 6 ["net", "start", "goal", "cost"] (spOf K mg false [false, false, false, false] m_count_to)
theorem own_count_to {f : Addr} {fd : FuncData} (T : Tx mg) (g_need_ends : Q_need_ends P w K mg base) (g_rows_to : Q_rows_to P w K mg base) (g_need_cost : Q_need_cost P w K mg base) (F : Fun K "count_to" "count_to" s_count_to f fd) : FnG P w K mg base (L2.CX P w) 6 f fd ["net", "start", "goal", "cost"] (spOf K mg false [false, false, false, false] m_count_to) := by
  obtain ⟨f_need_ends, fd_need_ends, G_need_ends, mg_need_ends, kp_need_ends, b_need_ends⟩ := g_need_ends.ex
  obtain ⟨f_rows_to, fd_rows_to, G_rows_to, mg_rows_to, kp_rows_to, b_rows_to⟩ := g_rows_to.ex
  obtain ⟨f_need_cost, fd_need_cost, G_need_cost, mg_need_cost, kp_need_cost, b_need_cost⟩ := g_need_cost.ex
  refine fnD false [false, false, false, false] F sc_count_to rfl ?_
  intro cdv A outer s H E C hgd hr
  have tk := takes_of (X := cxOf (L2.CX P w) P w K mg base N_count_to "count_to" (defScope s_count_to) f cdv A outer s H E) (E := E) rfl rfl rfl rfl
  have hp := passes_of (X := cxOf (L2.CX P w) P w K mg base N_count_to "count_to" (defScope s_count_to) f cdv A outer s H E) rfl
  exact (fss_cons (fs_exp (fe_call G_need_ends hgd (hr.mono (by decide : 5 ≤ 5)) tk (by rfl) mg_need_ends kp_need_ends b_need_ends (fa_cons (fe_var 0) (fa_cons (fe_var 1) (fa_cons (fe_var 2) fa_nil)))))
      (fss_cons (fs_exp (fe_call G_need_cost hgd (hr.mono (by decide : 2 ≤ 5)) tk (by rfl) mg_need_cost kp_need_cost b_need_cost (fa_cons (fe_var 3) fa_nil)))
      (fss_one (fs_ret (fe_callB (c_sum rfl) (by rfl) T.n_sum (by decide +kernel) (fa_cons (fe_comp (own := [("row", 4)]) rfl sc_count_to.nd (fi_seq (fe_call G_rows_to hgd (hr.mono (by decide : 2 ≤ 5)) tk (by rfl) mg_rows_to kp_rows_to b_rows_to (fa_cons (fe_var 0) (fa_cons (fe_var 2) (fa_cons (fe_var 3) fa_nil))))) (blkOk_by (own := [("row", 4)]) (N := N_count_to) (sc := defScope s_count_to) (by decide +kernel)) (fun _ _ _ _ _ => (fg_nm sc_count_to.nd rfl (by first | exact Or.inl rfl | exact Or.inr rfl))) (fun _ _ _ _ _ _ => fts_nil) (fun _ _ _ _ _ _ => (fe_ix i_ix (fe_var 4) (fe_var 1) (fun _ _ => rfl)))) fa_nil))))))
theorem ok_count_to {f : Addr} {fd : FuncData} (T : Tx mg) (g_need_ends : Q_need_ends P w K mg base) (g_rows_to : Q_rows_to P w K mg base) (g_need_cost : Q_need_cost P w K mg base) (F : Fun K "count_to" "count_to" s_count_to f fd) (hm : mg "count_to" = some (.ref f)) : Q_count_to P w K mg base :=
  ⟨⟨f, fd, own_count_to T g_need_ends g_rows_to g_need_cost F, hm, F.kp, F.binds fun _ _ _ _ _ _ us hl => match us, hl with | [_, _, _, _], _ => rfl⟩⟩
abbrev s__law_cell_at : Stmt := topS 27
abbrev N__law_cell_at : List Str := ["_law_script", "_law_k"]
theorem sc__law_cell_at : FnScope N__law_cell_at ["_law_script", "_law_k"] (defScope s__law_cell_at) := ⟨rfl, rfl, rfl, by decide +kernel, rfl, by decide +kernel, by decide +kernel⟩
abbrev Q__law_cell_at (P : Program) (w : World) (K : PySem.W.Frag) (mg : Str → Option Value) (base : Heap) : Prop := Cal P w K mg base "_law_cell_at" 1 ["_law_script", "_law_k"] (spOf K mg false [false, false] m__law_cell_at)
theorem own__law_cell_at {f : Addr} {fd : FuncData} (T : Tx mg) (F : Fun K "_law_cell_at" "_law_cell_at" s__law_cell_at f fd) : FnG P w K mg base (L2.CX P w) 1 f fd ["_law_script", "_law_k"] (spOf K mg false [false, false] m__law_cell_at) := by
  refine fnD false [false, false] F sc__law_cell_at rfl ?_
  intro cdv A outer s H E C hgd hr
  have tk := takes_of (X := cxOf (L2.CX P w) P w K mg base N__law_cell_at "_law_cell_at" (defScope s__law_cell_at) f cdv A outer s H E) (E := E) rfl rfl rfl rfl
  have hp := passes_of (X := cxOf (L2.CX P w) P w K mg base N__law_cell_at "_law_cell_at" (defScope s__law_cell_at) f cdv A outer s H E) rfl
  exact (fss_cons (fs_if (ft_cmp o_lt (fe_var 1) (fe_callB c_len (by rfl) T.n_len (by decide +kernel) (fa_cons (fe_var 0) fa_nil)) (nomark _)) (fss_one (fs_ret (fe_ix i_ix (fe_var 0) (fe_var 1) (fun _ _ => rfl)))) fss_nil)
      (fss_one (fs_ret fe_int)))
theorem ok__law_cell_at {f : Addr} {fd : FuncData} (T : Tx mg) (F : Fun K "_law_cell_at" "_law_cell_at" s__law_cell_at f fd) (hm : mg "_law_cell_at" = some (.ref f)) : Q__law_cell_at P w K mg base :=
  ⟨⟨f, fd, own__law_cell_at T F, hm, F.kp, F.binds fun _ _ _ _ _ _ us hl => match us, hl with | [_, _], _ => rfl⟩⟩
abbrev s__law_state : Stmt := topS 28
abbrev N__law_state : List Str := ["_law_script", "_law_k", "_law_cell"]
theorem sc__law_state : FnScope N__law_state ["_law_script", "_law_k"] (defScope s__law_state) := ⟨rfl, rfl, rfl, by decide +kernel, rfl, by decide +kernel, by decide +kernel⟩
abbrev Q__law_state (P : Program) (w : World) (K : PySem.W.Frag) (mg : Str → Option Value) (base : Heap) : Prop := Cal P w K mg base "_law_state" 2 ["_law_script", "_law_k"] (spOf K mg true [false, false] m__law_state)
theorem own__law_state {f : Addr} {fd : FuncData} (T : Tx mg) (g__law_cell_at : Q__law_cell_at P w K mg base) (F : Fun K "_law_state" "_law_state" s__law_state f fd) : FnG P w K mg base (L2.CX P w) 2 f fd ["_law_script", "_law_k"] (spOf K mg true [false, false] m__law_state) := by
  obtain ⟨f__law_cell_at, fd__law_cell_at, G__law_cell_at, mg__law_cell_at, kp__law_cell_at, b__law_cell_at⟩ := g__law_cell_at.ex
  refine fnD true [false, false] F sc__law_state rfl ?_
  intro cdv A outer s H E C hgd hr
  have tk := takes_of (X := cxOf (L2.CX P w) P w K mg base N__law_state "_law_state" (defScope s__law_state) f cdv A outer s H E) (E := E) rfl rfl rfl rfl
  have hp := passes_of (X := cxOf (L2.CX P w) P w K mg base N__law_state "_law_state" (defScope s__law_state) f cdv A outer s H E) rfl
  exact (fss_cons (fs_set (i := 2) sc__law_state.nd rfl (by first | exact Or.inl rfl | exact Or.inr rfl) (fe_call G__law_cell_at hgd (hr.mono (by decide : 1 ≤ 1)) tk (by rfl) mg__law_cell_at kp__law_cell_at b__law_cell_at (fa_cons (fe_var 0) (fa_cons (fe_var 1) fa_nil))))
      (fss_one (fs_ret (fe_new (fa_cons (fe_callB (c_max2 rfl) (by rfl) T.n_max (by decide +kernel) (fa_cons fe_int (fa_cons (fe_op o_sub (fe_var 2) (fe_op o_pow fe_int fe_int)) fa_nil))) (fa_cons (fe_op o_mod (fe_var 2) fe_int) fa_nil))))))
theorem ok__law_state {f : Addr} {fd : FuncData} (T : Tx mg) (g__law_cell_at : Q__law_cell_at P w K mg base) (F : Fun K "_law_state" "_law_state" s__law_state f fd) (hm : mg "_law_state" = some (.ref f)) : Q__law_state P w K mg base :=
  ⟨⟨f, fd, own__law_state T g__law_cell_at F, hm, F.kp, F.binds fun _ _ _ _ _ _ us hl => match us, hl with | [_, _], _ => rfl⟩⟩
abbrev s__law_take : Stmt := topS 29
abbrev N__law_take : List Str := ["_law_state_here", "_law_far", "_law_found", "_law_stirred"]
theorem sc__law_take : FnScope N__law_take ["_law_state_here", "_law_far"] (defScope s__law_take) := ⟨rfl, rfl, rfl, by decide +kernel, rfl, by decide +kernel, by decide +kernel⟩
abbrev Q__law_take (P : Program) (w : World) (K : PySem.W.Frag) (mg : Str → Option Value) (base : Heap) : Prop := Cal P w K mg base "_law_take" 1 ["_law_state_here", "_law_far"] (spOf K mg false [true, false] m__law_take)
theorem own__law_take {f : Addr} {fd : FuncData} (T : Tx mg) (F : Fun K "_law_take" "_law_take" s__law_take f fd) : FnG P w K mg base (L2.CX P w) 1 f fd ["_law_state_here", "_law_far"] (spOf K mg false [true, false] m__law_take) := by
  refine fnD false [true, false] F sc__law_take rfl ?_
  intro cdv A outer s H E C hgd hr
  have tk := takes_of (X := cxOf (L2.CX P w) P w K mg base N__law_take "_law_take" (defScope s__law_take) f cdv A outer s H E) (E := E) rfl rfl rfl rfl
  have hp := passes_of (X := cxOf (L2.CX P w) P w K mg base N__law_take "_law_take" (defScope s__law_take) f cdv A outer s H E) rfl
  exact (fss_cons (fs_if (ft_cmp o_gt (fe_ix i_ix (fe_var 0) fe_int (fun _ _ => rfl)) fe_int (nomark _)) (fss_cons (fs_set (i := 2) sc__law_take.nd rfl (by first | exact Or.inl rfl | exact Or.inr rfl) (fe_op o_mod (fe_ix i_ix (fe_var 0) fe_int (fun _ _ => rfl)) (fe_var 1)))
      (fss_cons (fs_put (fe_var 0) fe_int (fe_op o_div (fe_ix i_ix (fe_var 0) fe_int (fun _ _ => rfl)) (fe_var 1)))
      (fss_one (fs_ret (fe_var 2))))) fss_nil)
      (fss_cons (fs_put (fe_var 0) fe_int (fe_op o_mod (fe_op o_addI (fe_op o_mul (fe_ix i_ix (fe_var 0) fe_int (fun _ _ => rfl)) fe_int) fe_int) fe_int))
      (fss_cons (fs_set (i := 3) sc__law_take.nd rfl (by first | exact Or.inl rfl | exact Or.inr rfl) (fe_op o_mod (fe_op o_addI (fe_op o_addI (fe_op o_mul (fe_ix i_ix (fe_var 0) fe_int (fun _ _ => rfl)) (fe_ix i_ix (fe_var 0) fe_int (fun _ _ => rfl))) (fe_op o_mul fe_int (fe_ix i_ix (fe_var 0) fe_int (fun _ _ => rfl)))) fe_int) fe_int))
      (fss_cons (fs_set (i := 3) sc__law_take.nd rfl (by first | exact Or.inl rfl | exact Or.inr rfl) (fe_op o_mod (fe_op o_addI (fe_op o_mul (fe_var 3) (fe_var 3)) (fe_op o_mul fe_int (fe_var 3))) fe_int))
      (fss_one (fs_ret (fe_op o_mod (fe_op o_div (fe_var 3) fe_int) (fe_var 1))))))))
theorem ok__law_take {f : Addr} {fd : FuncData} (T : Tx mg) (F : Fun K "_law_take" "_law_take" s__law_take f fd) (hm : mg "_law_take" = some (.ref f)) : Q__law_take P w K mg base :=
  ⟨⟨f, fd, own__law_take T F, hm, F.kp, F.binds fun _ _ _ _ _ _ us hl => match us, hl with | [_, _], _ => rfl⟩⟩
abbrev s__law_net : Stmt := topS 30
abbrev N__law_net : List Str := ["_law_state_here", "_law_most", "_law_far", "_law_places", "_law_roads", "_law_turn", "_law_one", "_law_other", "_law_cost", "_law_time"]
theorem sc__law_net : FnScope N__law_net ["_law_state_here", "_law_most", "_law_far"] (defScope s__law_net) := ⟨rfl, rfl, rfl, by decide +kernel, rfl, by decide +kernel, by decide +kernel⟩
abbrev Q__law_net (P : Program) (w : World) (K : PySem.W.Frag) (mg : Str → Option Value) (base : Heap) : Prop := Cal P w K mg base "_law_net" 2 ["_law_state_here", "_law_most", "_law_far"] (spOf K mg false [true, false, false] m__law_net)
theorem own__law_net {f : Addr} {fd : FuncData} (T : Tx mg) (g__law_take : Q__law_take P w K mg base) (F : Fun K "_law_net" "_law_net" s__law_net f fd) : FnG P w K mg base (L2.CX P w) 2 f fd ["_law_state_here", "_law_most", "_law_far"] (spOf K mg false [true, false, false] m__law_net) := by
  obtain ⟨f__law_take, fd__law_take, G__law_take, mg__law_take, kp__law_take, b__law_take⟩ := g__law_take.ex
  refine fnD false [true, false, false] F sc__law_net rfl ?_
  intro cdv A outer s H E C hgd hr
  have tk := takes_of (X := cxOf (L2.CX P w) P w K mg base N__law_net "_law_net" (defScope s__law_net) f cdv A outer s H E) (E := E) rfl rfl rfl rfl
  have hp := passes_of (X := cxOf (L2.CX P w) P w K mg base N__law_net "_law_net" (defScope s__law_net) f cdv A outer s H E) rfl
  exact (fss_cons (fs_par (i := 3) (j := 4) rfl sc__law_net.nd rfl rfl (by decide) rfl rfl (fa_cons (fe_op o_addI fe_int (fe_call G__law_take hgd (hr.mono (by decide : 1 ≤ 1)) tk (by rfl) mg__law_take kp__law_take b__law_take (fa_cons (fe_var 0) (fa_cons (fe_var 1) fa_nil)))) (fa_cons (fe_new fa_nil) fa_nil)) (by rfl))
      (fss_cons (fs_for hp rfl (fi_rng1 (by rfl) T.n_range (fa_cons (fe_op o_mul (fe_call G__law_take hgd (hr.mono (by decide : 1 ≤ 1)) tk (by rfl) mg__law_take kp__law_take b__law_take (fa_cons (fe_var 0) (fa_cons (fe_op o_addI (fe_var 2) fe_int) fa_nil))) (fe_callTy c_int (by rfl) T.n_int (by decide +kernel) (fa_cons (fe_cmp o_gt (fe_var 3) fe_int (nomark _)) fa_nil))) fa_nil)) (fg_nm sc__law_net.nd rfl (by first | exact Or.inl rfl | exact Or.inr rfl)) (fss_cons (fs_set (i := 6) sc__law_net.nd rfl (by first | exact Or.inl rfl | exact Or.inr rfl) (fe_ix i_ix (fe_lst (fa_cons (fe_call G__law_take hgd (hr.mono (by decide : 1 ≤ 1)) tk (by rfl) mg__law_take kp__law_take b__law_take (fa_cons (fe_var 0) (fa_cons (fe_var 3) fa_nil))) (fa_cons (fe_callB (c_min2 rfl) (by rfl) T.n_min (by decide +kernel) (fa_cons (fe_var 5) (fa_cons (fe_op o_sub (fe_var 3) fe_int) fa_nil))) fa_nil))) (fe_call G__law_take hgd (hr.mono (by decide : 1 ≤ 1)) tk (by rfl) mg__law_take kp__law_take b__law_take (fa_cons (fe_var 0) (fa_cons fe_int fa_nil))) (fun _ _ => rfl)))
      (fss_cons (fs_set (i := 7) sc__law_net.nd rfl (by first | exact Or.inl rfl | exact Or.inr rfl) (fe_op o_mod (fe_op o_addI (fe_op o_addI (fe_var 6) fe_int) (fe_ix i_ix (fe_lst (fa_cons fe_int (fa_cons (fe_call G__law_take hgd (hr.mono (by decide : 1 ≤ 1)) tk (by rfl) mg__law_take kp__law_take b__law_take (fa_cons (fe_var 0) (fa_cons (fe_op o_sub (fe_var 3) fe_int) fa_nil))) fa_nil))) (fe_call G__law_take hgd (hr.mono (by decide : 1 ≤ 1)) tk (by rfl) mg__law_take kp__law_take b__law_take (fa_cons (fe_var 0) (fa_cons fe_int fa_nil))) (fun _ _ => rfl))) (fe_var 3)))
      (fss_cons (fs_set (i := 8) sc__law_net.nd rfl (by first | exact Or.inl rfl | exact Or.inr rfl) (fe_ix i_ix (fe_lst (fa_cons (fe_op o_addI fe_int (fe_call G__law_take hgd (hr.mono (by decide : 1 ≤ 1)) tk (by rfl) mg__law_take kp__law_take b__law_take (fa_cons (fe_var 0) (fa_cons fe_int fa_nil)))) (fa_cons (fe_op o_addI fe_int (fe_call G__law_take hgd (hr.mono (by decide : 1 ≤ 1)) tk (by rfl) mg__law_take kp__law_take b__law_take (fa_cons (fe_var 0) (fa_cons fe_int fa_nil)))) (fa_cons fe_int fa_nil)))) (fe_call G__law_take hgd (hr.mono (by decide : 1 ≤ 1)) tk (by rfl) mg__law_take kp__law_take b__law_take (fa_cons (fe_var 0) (fa_cons fe_int fa_nil))) (fun _ _ => rfl)))
      (fss_cons (fs_set (i := 9) sc__law_net.nd rfl (by first | exact Or.inl rfl | exact Or.inr rfl) (fe_ix i_ix (fe_lst (fa_cons (fe_call G__law_take hgd (hr.mono (by decide : 1 ≤ 1)) tk (by rfl) mg__law_take kp__law_take b__law_take (fa_cons (fe_var 0) (fa_cons fe_int fa_nil))) (fa_cons (fe_call G__law_take hgd (hr.mono (by decide : 1 ≤ 1)) tk (by rfl) mg__law_take kp__law_take b__law_take (fa_cons (fe_var 0) (fa_cons fe_int fa_nil))) (fa_cons fe_int fa_nil)))) (fe_call G__law_take hgd (hr.mono (by decide : 1 ≤ 1)) tk (by rfl) mg__law_take kp__law_take b__law_take (fa_cons (fe_var 0) (fa_cons fe_int fa_nil))) (fun _ _ => rfl)))
      (fss_one (fs_exp (fe_mt PySem.F.slot_list_append PySem.F.type_list_append m_append (fe_var 4) (fa_cons (fe_tup (fa_cons (fe_var 6) (fa_cons (fe_var 7) (fa_cons (fe_var 8) (fa_cons (fe_var 9) fa_nil))))) fa_nil)))))))))
      (fss_one (fs_ret (fe_tup (fa_cons (fe_var 3) (fa_cons (fe_callTy c_tuple (by rfl) T.n_tuple (by decide +kernel) (fa_cons (fe_var 4) fa_nil)) fa_nil)))))))
theorem ok__law_net {f : Addr} {fd : FuncData} (T : Tx mg) (g__law_take : Q__law_take P w K mg base) (F : Fun K "_law_net" "_law_net" s__law_net f fd) (hm : mg "_law_net" = some (.ref f)) : Q__law_net P w K mg base :=
  ⟨⟨f, fd, own__law_net T g__law_take F, hm, F.kp, F.binds fun _ _ _ _ _ _ us hl => match us, hl with | [_, _, _], _ => rfl⟩⟩
abbrev s__law_ends : Stmt := topS 31
abbrev N__law_ends : List Str := ["_law_state_here", "_law_net_here", "_law_start"]
theorem sc__law_ends : FnScope N__law_ends ["_law_state_here", "_law_net_here"] (defScope s__law_ends) := ⟨rfl, rfl, rfl, by decide +kernel, rfl, by decide +kernel, by decide +kernel⟩
abbrev Q__law_ends (P : Program) (w : World) (K : PySem.W.Frag) (mg : Str → Option Value) (base : Heap) : Prop := Cal P w K mg base "_law_ends" 2 ["_law_state_here", "_law_net_here"] (spOf K mg false [true, false] m__law_ends)
theorem own__law_ends {f : Addr} {fd : FuncData} (T : Tx mg) (g__law_take : Q__law_take P w K mg base) (F : Fun K "_law_ends" "_law_ends" s__law_ends f fd) : FnG P w K mg base (L2.CX P w) 2 f fd ["_law_state_here", "_law_net_here"] (spOf K mg false [true, false] m__law_ends) := by
  obtain ⟨f__law_take, fd__law_take, G__law_take, mg__law_take, kp__law_take, b__law_take⟩ := g__law_take.ex
  refine fnD false [true, false] F sc__law_ends rfl ?_
  intro cdv A outer s H E C hgd hr
  have tk := takes_of (X := cxOf (L2.CX P w) P w K mg base N__law_ends "_law_ends" (defScope s__law_ends) f cdv A outer s H E) (E := E) rfl rfl rfl rfl
  have hp := passes_of (X := cxOf (L2.CX P w) P w K mg base N__law_ends "_law_ends" (defScope s__law_ends) f cdv A outer s H E) rfl
  exact (fss_cons (fs_set (i := 2) sc__law_ends.nd rfl (by first | exact Or.inl rfl | exact Or.inr rfl) (fe_call G__law_take hgd (hr.mono (by decide : 1 ≤ 1)) tk (by rfl) mg__law_take kp__law_take b__law_take (fa_cons (fe_var 0) (fa_cons (fe_ix i_ix (fe_var 1) fe_int (fun _ _ => rfl)) fa_nil))))
      (fss_one (fs_ret (fe_tup (fa_cons (fe_var 2) (fa_cons (fe_ix i_ix (fe_lst (fa_cons (fe_var 2) (fa_cons (fe_call G__law_take hgd (hr.mono (by decide : 1 ≤ 1)) tk (by rfl) mg__law_take kp__law_take b__law_take (fa_cons (fe_var 0) (fa_cons (fe_ix i_ix (fe_var 1) fe_int (fun _ _ => rfl)) fa_nil))) (fa_cons (fe_call G__law_take hgd (hr.mono (by decide : 1 ≤ 1)) tk (by rfl) mg__law_take kp__law_take b__law_take (fa_cons (fe_var 0) (fa_cons (fe_ix i_ix (fe_var 1) fe_int (fun _ _ => rfl)) fa_nil))) fa_nil)))) (fe_call G__law_take hgd (hr.mono (by decide : 1 ≤ 1)) tk (by rfl) mg__law_take kp__law_take b__law_take (fa_cons (fe_var 0) (fa_cons fe_int fa_nil))) (fun _ _ => rfl)) fa_nil))))))
theorem ok__law_ends {f : Addr} {fd : FuncData} (T : Tx mg) (g__law_take : Q__law_take P w K mg base) (F : Fun K "_law_ends" "_law_ends" s__law_ends f fd) (hm : mg "_law_ends" = some (.ref f)) : Q__law_ends P w K mg base :=
  ⟨⟨f, fd, own__law_ends T g__law_take F, hm, F.kp, F.binds fun _ _ _ _ _ _ us hl => match us, hl with | [_, _], _ => rfl⟩⟩
abbrev s__law_right : Stmt := topS 32
abbrev N__law_right : List Str := ["_law_net_here", "_law_start", "_law_goal", "_law_cost", "_law_own", "_law_first", "_law_last", "_law_one", "_law_other", "_law_more", "_law_longer", "_law_about", "_law_ahead"]
theorem sc__law_right : FnScope N__law_right ["_law_net_here", "_law_start", "_law_goal", "_law_cost"] (defScope s__law_right) := ⟨rfl, rfl, rfl, by decide +kernel, rfl, by decide +kernel, by decide +kernel⟩
abbrev Q__law_right (P : Program) (w : World) (K : PySem.W.Frag) (mg : Str → Option Value) (base : Heap) : Prop := Cal P w K mg base "_law_right" 7 ["_law_net_here", "_law_start", "_law_goal", "_law_cost"] (spOf K mg false [false, false, false, false] m__law_right)
theorem own__law_right {f : Addr} {fd : FuncData} (T : Tx mg) (g_count_of : Q_count_of P w K mg base) (g_count_to : Q_count_to P w K mg base) (F : Fun K "_law_right" "_law_right" s__law_right f fd) : FnG P w K mg base (L2.CX P w) 7 f fd ["_law_net_here", "_law_start", "_law_goal", "_law_cost"] (spOf K mg false [false, false, false, false] m__law_right) := by
  obtain ⟨f_count_of, fd_count_of, G_count_of, mg_count_of, kp_count_of, b_count_of⟩ := g_count_of.ex
  obtain ⟨f_count_to, fd_count_to, G_count_to, mg_count_to, kp_count_to, b_count_to⟩ := g_count_to.ex
  refine fnD false [false, false, false, false] F sc__law_right rfl ?_
  intro cdv A outer s H E C hgd hr
  have tk := takes_of (X := cxOf (L2.CX P w) P w K mg base N__law_right "_law_right" (defScope s__law_right) f cdv A outer s H E) (E := E) rfl rfl rfl rfl
  have hp := passes_of (X := cxOf (L2.CX P w) P w K mg base N__law_right "_law_right" (defScope s__law_right) f cdv A outer s H E) rfl
  exact (fss_cons (fs_set (i := 4) sc__law_right.nd rfl (by first | exact Or.inl rfl | exact Or.inr rfl) (fe_call G_count_of hgd (hr.mono (by decide : 6 ≤ 6)) tk (by rfl) mg_count_of kp_count_of b_count_of (fa_cons (fe_var 0) (fa_cons (fe_var 1) (fa_cons (fe_var 2) (fa_cons (fe_var 3) fa_nil))))))
      (fss_cons (fs_par (i := 5) (j := 6) rfl sc__law_right.nd rfl rfl (by decide) rfl rfl (fa_cons (fe_callTy c_int (by rfl) T.n_int (by decide +kernel) (fa_cons (fe_and (fe_cmp (o_eq hr.units) (fe_var 3) fe_int (nomark _)) (fe_one (fe_cmp (o_eq hr.units) (fe_var 1) (fe_var 2) (nomark _)))) fa_nil)) (fa_cons (fe_callTy c_int (by rfl) T.n_int (by decide +kernel) (fa_cons (fe_and (fe_cmp (o_eq hr.units) (fe_var 3) fe_int (nomark _)) (fe_one (fe_cmp (o_eq hr.units) (fe_var 1) (fe_var 2) (nomark _)))) fa_nil)) fa_nil)) (by rfl))
      (fss_cons (fs_for hp rfl (fi_seq (fe_ix i_ix (fe_var 0) fe_int (fun _ _ => rfl))) (fg_tp rfl (fgs_cons (fg_nm sc__law_right.nd rfl (by first | exact Or.inl rfl | exact Or.inr rfl)) (fgs_cons (fg_nm sc__law_right.nd rfl (by first | exact Or.inl rfl | exact Or.inr rfl)) (fgs_cons (fg_nm sc__law_right.nd rfl (by first | exact Or.inl rfl | exact Or.inr rfl)) (fgs_cons (fg_nm sc__law_right.nd rfl (by first | exact Or.inl rfl | exact Or.inr rfl)) fgs_nil))))) (fss_cons (fs_if (ft_w (fw_and (ft_cmp (o_eq hr.units) (fe_var 7) (fe_var 1) (nomark _)) (fw_and1 (ft_cmp o_le (fe_var 9) (fe_var 3) (nomark _))))) (fss_one (fs_set (i := 5) sc__law_right.nd rfl (by first | exact Or.inl rfl | exact Or.inr rfl) (fe_op o_addI (fe_var 5) (fe_call G_count_of hgd (hr.mono (by decide : 6 ≤ 6)) tk (by rfl) mg_count_of kp_count_of b_count_of (fa_cons (fe_var 0) (fa_cons (fe_var 8) (fa_cons (fe_var 2) (fa_cons (fe_op o_sub (fe_var 3) (fe_var 9)) fa_nil)))))))) fss_nil)
      (fss_one (fs_if (ft_w (fw_and (ft_cmp (o_eq hr.units) (fe_var 8) (fe_var 2) (nomark _)) (fw_and1 (ft_cmp o_le (fe_var 9) (fe_var 3) (nomark _))))) (fss_one (fs_set (i := 6) sc__law_right.nd rfl (by first | exact Or.inl rfl | exact Or.inr rfl) (fe_op o_addI (fe_var 6) (fe_call G_count_of hgd (hr.mono (by decide : 6 ≤ 6)) tk (by rfl) mg_count_of kp_count_of b_count_of (fa_cons (fe_var 0) (fa_cons (fe_var 1) (fa_cons (fe_var 7) (fa_cons (fe_op o_sub (fe_var 3) (fe_var 9)) fa_nil)))))))) fss_nil))))
      (fss_cons (fs_set (i := 11) sc__law_right.nd rfl (by first | exact Or.inl rfl | exact Or.inr rfl) (fe_tup (fa_cons (fe_ix i_ix (fe_var 0) fe_int (fun _ _ => rfl)) (fa_cons (fe_callTy c_tuple (by rfl) T.n_tuple (by decide +kernel) (fa_cons (fe_comp (own := [("_law_one", 7), ("_law_other", 8), ("_law_more", 9), ("_law_longer", 10)]) rfl sc__law_right.nd (fi_seq (fe_ix i_ix (fe_var 0) fe_int (fun _ _ => rfl))) (blkOk_by (own := [("_law_one", 7), ("_law_other", 8), ("_law_more", 9), ("_law_longer", 10)]) (N := N__law_right) (sc := defScope s__law_right) (by decide +kernel)) (fun _ _ _ _ _ => (fg_tp rfl (fgs_cons (fg_nm sc__law_right.nd rfl (by first | exact Or.inl rfl | exact Or.inr rfl)) (fgs_cons (fg_nm sc__law_right.nd rfl (by first | exact Or.inl rfl | exact Or.inr rfl)) (fgs_cons (fg_nm sc__law_right.nd rfl (by first | exact Or.inl rfl | exact Or.inr rfl)) (fgs_cons (fg_nm sc__law_right.nd rfl (by first | exact Or.inl rfl | exact Or.inr rfl)) fgs_nil)))))) (fun _ _ _ _ _ _ => fts_nil) (fun _ _ _ _ _ _ => (fe_tup (fa_cons (fe_var 8) (fa_cons (fe_var 7) (fa_cons (fe_var 9) (fa_cons (fe_var 10) fa_nil))))))) fa_nil)) fa_nil))))
      (fss_cons (fs_if (ft_cmp (o_ne hr.units) (fe_lst (fa_cons (fe_var 4) (fa_cons (fe_var 4) (fa_cons (fe_var 4) fa_nil)))) (fe_lst (fa_cons (fe_var 5) (fa_cons (fe_var 6) (fa_cons (fe_call G_count_of hgd (hr.mono (by decide : 6 ≤ 6)) tk (by rfl) mg_count_of kp_count_of b_count_of (fa_cons (fe_var 11) (fa_cons (fe_var 2) (fa_cons (fe_var 1) (fa_cons (fe_var 3) fa_nil))))) fa_nil)))) (nomark _)) (fss_one (fs_ret fe_bl)) fss_nil)
      (fss_cons (fs_set (i := 12) sc__law_right.nd rfl (by first | exact Or.inl rfl | exact Or.inr rfl) (fe_if (ft_cmp o_gt (fe_var 3) fe_int (nomark _)) (fe_call G_count_to hgd (hr.mono (by decide : 6 ≤ 6)) tk (by rfl) mg_count_to kp_count_to b_count_to (fa_cons (fe_var 0) (fa_cons (fe_var 1) (fa_cons (fe_var 2) (fa_cons (fe_op o_sub (fe_var 3) fe_int) fa_nil))))) fe_int))
      (fss_cons (fs_if (ft_cmp (o_ne hr.units) (fe_call G_count_of hgd (hr.mono (by decide : 6 ≤ 6)) tk (by rfl) mg_count_of kp_count_of b_count_of (fa_cons (fe_tup (fa_cons (fe_ix i_ix (fe_var 0) fe_int (fun _ _ => rfl)) (fa_cons (fe_rev (fe_ix i_ix (fe_var 0) fe_int (fun _ _ => rfl))) fa_nil))) (fa_cons (fe_var 1) (fa_cons (fe_var 2) (fa_cons (fe_var 3) fa_nil))))) (fe_var 4) (nomark _)) (fss_one (fs_ret fe_bl)) fss_nil)
      (fss_one (fs_ret (fe_cmp (o_eq hr.units) (fe_call G_count_to hgd (hr.mono (by decide : 6 ≤ 6)) tk (by rfl) mg_count_to kp_count_to b_count_to (fa_cons (fe_var 0) (fa_cons (fe_var 1) (fa_cons (fe_var 2) (fa_cons (fe_var 3) fa_nil))))) (fe_op o_addI (fe_var 12) (fe_var 4)) (nomark _)))))))))))
theorem ok__law_right {f : Addr} {fd : FuncData} (T : Tx mg) (g_count_of : Q_count_of P w K mg base) (g_count_to : Q_count_to P w K mg base) (F : Fun K "_law_right" "_law_right" s__law_right f fd) (hm : mg "_law_right" = some (.ref f)) : Q__law_right P w K mg base :=
  ⟨⟨f, fd, own__law_right T g_count_of g_count_to F, hm, F.kp, F.binds fun _ _ _ _ _ _ us hl => match us, hl with | [_, _, _, _], _ => rfl⟩⟩
abbrev s_law : Stmt := topS 33
abbrev N_law : List Str := ["_law_script", "_law_k", "_law_state_here", "_law_net_here", "_law_start", "_law_goal", "_law_cost"]
theorem sc_law : FnScope N_law ["_law_script"] (defScope s_law) := ⟨rfl, rfl, rfl, by decide +kernel, rfl, by decide +kernel, by decide +kernel⟩
abbrev Q_law (P : Program) (w : World) (K : PySem.W.Frag) (mg : Str → Option Value) (base : Heap) : Prop := Cal P w K mg base "law" 8 ["_law_script"] (spOf K mg false [false] m_law)
theorem own_law {f : Addr} {fd : FuncData} (T : Tx mg) (g__law_state : Q__law_state P w K mg base) (g__law_take : Q__law_take P w K mg base) (g__law_net : Q__law_net P w K mg base) (g__law_ends : Q__law_ends P w K mg base) (g__law_right : Q__law_right P w K mg base) (F : Fun K "law" "law" s_law f fd) : FnG P w K mg base (L2.CX P w) 8 f fd ["_law_script"] (spOf K mg false [false] m_law) := by
  obtain ⟨f__law_state, fd__law_state, G__law_state, mg__law_state, kp__law_state, b__law_state⟩ := g__law_state.ex
  obtain ⟨f__law_take, fd__law_take, G__law_take, mg__law_take, kp__law_take, b__law_take⟩ := g__law_take.ex
  obtain ⟨f__law_net, fd__law_net, G__law_net, mg__law_net, kp__law_net, b__law_net⟩ := g__law_net.ex
  obtain ⟨f__law_ends, fd__law_ends, G__law_ends, mg__law_ends, kp__law_ends, b__law_ends⟩ := g__law_ends.ex
  obtain ⟨f__law_right, fd__law_right, G__law_right, mg__law_right, kp__law_right, b__law_right⟩ := g__law_right.ex
  refine fnD false [false] F sc_law rfl ?_
  intro cdv A outer s H E C hgd hr
  have tk := takes_of (X := cxOf (L2.CX P w) P w K mg base N_law "law" (defScope s_law) f cdv A outer s H E) (E := E) rfl rfl rfl rfl
  have hp := passes_of (X := cxOf (L2.CX P w) P w K mg base N_law "law" (defScope s_law) f cdv A outer s H E) rfl
  exact (fss_cons (fs_for hp rfl (fi_rng1 (by rfl) T.n_range (fa_cons (fe_callB (c_max2 rfl) (by rfl) T.n_max (by decide +kernel) (fa_cons fe_int (fa_cons (fe_callB (c_min2 rfl) (by rfl) T.n_min (by decide +kernel) (fa_cons (fe_callB c_len (by rfl) T.n_len (by decide +kernel) (fa_cons (fe_var 0) fa_nil)) (fa_cons fe_int fa_nil))) fa_nil))) fa_nil)) (fg_nm sc_law.nd rfl (by first | exact Or.inl rfl | exact Or.inr rfl)) (fss_cons (fs_set (i := 2) sc_law.nd rfl (by first | exact Or.inl rfl | exact Or.inr rfl) (fe_callN G__law_state hgd (hr.mono (by decide : 2 ≤ 7)) tk (by rfl) mg__law_state kp__law_state b__law_state (fa_cons (fe_var 0) (fa_cons (fe_var 1) fa_nil))))
      (fss_cons (fs_set (i := 3) sc_law.nd rfl (by first | exact Or.inl rfl | exact Or.inr rfl) (fe_call G__law_net hgd (hr.mono (by decide : 2 ≤ 7)) tk (by rfl) mg__law_net kp__law_net b__law_net (fa_cons (fe_var 2) (fa_cons fe_int (fa_cons fe_int fa_nil)))))
      (fss_cons (fs_asg (fe_call G__law_ends hgd (hr.mono (by decide : 2 ≤ 7)) tk (by rfl) mg__law_ends kp__law_ends b__law_ends (fa_cons (fe_var 2) (fa_cons (fe_var 3) fa_nil))) (fg_tp rfl (fgs_cons (fg_nm sc_law.nd rfl (by first | exact Or.inl rfl | exact Or.inr rfl)) (fgs_cons (fg_nm sc_law.nd rfl (by first | exact Or.inl rfl | exact Or.inr rfl)) fgs_nil))))
      (fss_one (fs_for hp rfl (fi_seq (fe_lst (fa_cons fe_int (fa_cons fe_int (fa_cons (fe_call G__law_take hgd (hr.mono (by decide : 1 ≤ 7)) tk (by rfl) mg__law_take kp__law_take b__law_take (fa_cons (fe_var 2) (fa_cons fe_int fa_nil))) (fa_cons (fe_call G__law_take hgd (hr.mono (by decide : 1 ≤ 7)) tk (by rfl) mg__law_take kp__law_take b__law_take (fa_cons (fe_var 2) (fa_cons fe_int fa_nil))) fa_nil)))))) (fg_nm sc_law.nd rfl (by first | exact Or.inl rfl | exact Or.inr rfl)) (fss_one (fs_if (ft_not (ft_val (fe_call G__law_right hgd (hr.mono (by decide : 7 ≤ 7)) tk (by rfl) mg__law_right kp__law_right b__law_right (fa_cons (fe_var 3) (fa_cons (fe_var 4) (fa_cons (fe_var 5) (fa_cons (fe_var 6) fa_nil))))))) (fss_one (fs_ret fe_bl)) fss_nil))))))))
      (fss_one (fs_ret fe_bl)))
theorem ok_law {f : Addr} {fd : FuncData} (T : Tx mg) (g__law_state : Q__law_state P w K mg base) (g__law_take : Q__law_take P w K mg base) (g__law_net : Q__law_net P w K mg base) (g__law_ends : Q__law_ends P w K mg base) (g__law_right : Q__law_right P w K mg base) (F : Fun K "law" "law" s_law f fd) (hm : mg "law" = some (.ref f)) : Q_law P w K mg base :=
  ⟨⟨f, fd, own_law T g__law_state g__law_take g__law_net g__law_ends g__law_right F, hm, F.kp, F.binds fun _ _ _ _ _ _ us hl => match us, hl with | [_], _ => rfl⟩⟩
end
end FL

namespace FL
open PySem PySem.Spec PyProof.Rows L2
theorem all_mk {P : Program} {w : World} {K : PySem.W.Frag} {h : Heap} {mg : Str → Option Value} {fa : Addr} (X : K.In h) (G : h.Ns mainGlobals mg) (hfa : mg "law" = some (.ref fa))
    {f0 : Addr} {od0 an0 : Option Addr} {sl0 : Array (Option Value)} {oc0 kV0 dc0 pm0 cd0 ct0 : Value}
    {f1 : Addr} {od1 an1 : Option Addr} {sl1 : Array (Option Value)} {oc1 kV1 dc1 pm1 cd1 ct1 : Value}
    {f2 : Addr} {od2 an2 : Option Addr} {sl2 : Array (Option Value)} {oc2 kV2 dc2 pm2 cd2 ct2 : Value}
    {f3 : Addr} {od3 an3 : Option Addr} {sl3 : Array (Option Value)} {oc3 kV3 dc3 pm3 cd3 ct3 : Value}
    {f4 : Addr} {od4 an4 : Option Addr} {sl4 : Array (Option Value)} {oc4 kV4 dc4 pm4 cd4 ct4 : Value}
    {f5 : Addr} {od5 an5 : Option Addr} {sl5 : Array (Option Value)} {oc5 kV5 dc5 pm5 cd5 ct5 : Value}
    {f6 : Addr} {od6 an6 : Option Addr} {sl6 : Array (Option Value)} {oc6 kV6 dc6 pm6 cd6 ct6 : Value}
    {f7 : Addr} {od7 an7 : Option Addr} {sl7 : Array (Option Value)} {oc7 kV7 dc7 pm7 cd7 ct7 : Value}
    {f8 : Addr} {od8 an8 : Option Addr} {sl8 : Array (Option Value)} {oc8 kV8 dc8 pm8 cd8 ct8 : Value}
    {f9 : Addr} {od9 an9 : Option Addr} {sl9 : Array (Option Value)} {oc9 kV9 dc9 pm9 cd9 ct9 : Value}
    {f10 : Addr} {od10 an10 : Option Addr} {sl10 : Array (Option Value)} {oc10 kV10 dc10 pm10 cd10 ct10 : Value}
    {f11 : Addr} {od11 an11 : Option Addr} {sl11 : Array (Option Value)} {oc11 kV11 dc11 pm11 cd11 ct11 : Value}
    {f12 : Addr} {od12 an12 : Option Addr} {sl12 : Array (Option Value)} {oc12 kV12 dc12 pm12 cd12 ct12 : Value}
    {f13 : Addr} {od13 an13 : Option Addr} {sl13 : Array (Option Value)} {oc13 kV13 dc13 pm13 cd13 ct13 : Value}
    {f14 : Addr} {od14 an14 : Option Addr} {sl14 : Array (Option Value)} {oc14 kV14 dc14 pm14 cd14 ct14 : Value}
    {f15 : Addr} {od15 an15 : Option Addr} {sl15 : Array (Option Value)} {oc15 kV15 dc15 pm15 cd15 ct15 : Value}
    {f16 : Addr} {od16 an16 : Option Addr} {sl16 : Array (Option Value)} {oc16 kV16 dc16 pm16 cd16 ct16 : Value}
    {f17 : Addr} {od17 an17 : Option Addr} {sl17 : Array (Option Value)} {oc17 kV17 dc17 pm17 cd17 ct17 : Value}
    {f18 : Addr} {od18 an18 : Option Addr} {sl18 : Array (Option Value)} {oc18 kV18 dc18 pm18 cd18 ct18 : Value}
    (a0 : PySem.W.nsIn K mainGlobals "is_among" = some (some (.ref f0))) (l0 : K.lookup f0 = some ⟨oc0, od0, .func (PySem.W.fnOf "is_among" "is_among" (defArgs s_is_among) (defBody s_is_among) (defScope s_is_among) .none kV0 dc0 pm0 an0 cd0 ct0), sl0⟩) (c0 : PySem.W.codeIn K cd0 "is_among" = true) (k0 : PySem.W.keepIn K (.ref f0) = true)
    (a1 : PySem.W.nsIn K mainGlobals "is_road" = some (some (.ref f1))) (l1 : K.lookup f1 = some ⟨oc1, od1, .func (PySem.W.fnOf "is_road" "is_road" (defArgs s_is_road) (defBody s_is_road) (defScope s_is_road) .none kV1 dc1 pm1 an1 cd1 ct1), sl1⟩) (c1 : PySem.W.codeIn K cd1 "is_road" = true) (k1 : PySem.W.keepIn K (.ref f1) = true)
    (a2 : PySem.W.nsIn K mainGlobals "is_net" = some (some (.ref f2))) (l2 : K.lookup f2 = some ⟨oc2, od2, .func (PySem.W.fnOf "is_net" "is_net" (defArgs s_is_net) (defBody s_is_net) (defScope s_is_net) .none kV2 dc2 pm2 an2 cd2 ct2), sl2⟩) (c2 : PySem.W.codeIn K cd2 "is_net" = true) (k2 : PySem.W.keepIn K (.ref f2) = true)
    (a3 : PySem.W.nsIn K mainGlobals "need_net" = some (some (.ref f3))) (l3 : K.lookup f3 = some ⟨oc3, od3, .func (PySem.W.fnOf "need_net" "need_net" (defArgs s_need_net) (defBody s_need_net) (defScope s_need_net) .none kV3 dc3 pm3 an3 cd3 ct3), sl3⟩) (c3 : PySem.W.codeIn K cd3 "need_net" = true) (k3 : PySem.W.keepIn K (.ref f3) = true)
    (a4 : PySem.W.nsIn K mainGlobals "is_place" = some (some (.ref f4))) (l4 : K.lookup f4 = some ⟨oc4, od4, .func (PySem.W.fnOf "is_place" "is_place" (defArgs s_is_place) (defBody s_is_place) (defScope s_is_place) .none kV4 dc4 pm4 an4 cd4 ct4), sl4⟩) (c4 : PySem.W.codeIn K cd4 "is_place" = true) (k4 : PySem.W.keepIn K (.ref f4) = true)
    (a5 : PySem.W.nsIn K mainGlobals "need_place" = some (some (.ref f5))) (l5 : K.lookup f5 = some ⟨oc5, od5, .func (PySem.W.fnOf "need_place" "need_place" (defArgs s_need_place) (defBody s_need_place) (defScope s_need_place) .none kV5 dc5 pm5 an5 cd5 ct5), sl5⟩) (c5 : PySem.W.codeIn K cd5 "need_place" = true) (k5 : PySem.W.keepIn K (.ref f5) = true)
    (a6 : PySem.W.nsIn K mainGlobals "need_ends" = some (some (.ref f6))) (l6 : K.lookup f6 = some ⟨oc6, od6, .func (PySem.W.fnOf "need_ends" "need_ends" (defArgs s_need_ends) (defBody s_need_ends) (defScope s_need_ends) .none kV6 dc6 pm6 an6 cd6 ct6), sl6⟩) (c6 : PySem.W.codeIn K cd6 "need_ends" = true) (k6 : PySem.W.keepIn K (.ref f6) = true)
    (a7 : PySem.W.nsIn K mainGlobals "next_row" = some (some (.ref f7))) (l7 : K.lookup f7 = some ⟨oc7, od7, .func (PySem.W.fnOf "next_row" "next_row" (defArgs s_next_row) (defBody s_next_row) (defScope s_next_row) .none kV7 dc7 pm7 an7 cd7 ct7), sl7⟩) (c7 : PySem.W.codeIn K cd7 "next_row" = true) (k7 : PySem.W.keepIn K (.ref f7) = true)
    (a8 : PySem.W.nsIn K mainGlobals "rows_to" = some (some (.ref f8))) (l8 : K.lookup f8 = some ⟨oc8, od8, .func (PySem.W.fnOf "rows_to" "rows_to" (defArgs s_rows_to) (defBody s_rows_to) (defScope s_rows_to) .none kV8 dc8 pm8 an8 cd8 ct8), sl8⟩) (c8 : PySem.W.codeIn K cd8 "rows_to" = true) (k8 : PySem.W.keepIn K (.ref f8) = true)
    (a9 : PySem.W.nsIn K mainGlobals "need_cost" = some (some (.ref f9))) (l9 : K.lookup f9 = some ⟨oc9, od9, .func (PySem.W.fnOf "need_cost" "need_cost" (defArgs s_need_cost) (defBody s_need_cost) (defScope s_need_cost) .none kV9 dc9 pm9 an9 cd9 ct9), sl9⟩) (c9 : PySem.W.codeIn K cd9 "need_cost" = true) (k9 : PySem.W.keepIn K (.ref f9) = true)
    (a10 : PySem.W.nsIn K mainGlobals "count_of" = some (some (.ref f10))) (l10 : K.lookup f10 = some ⟨oc10, od10, .func (PySem.W.fnOf "count_of" "count_of" (defArgs s_count_of) (defBody s_count_of) (defScope s_count_of) .none kV10 dc10 pm10 an10 cd10 ct10), sl10⟩) (c10 : PySem.W.codeIn K cd10 "count_of" = true) (k10 : PySem.W.keepIn K (.ref f10) = true)
    (a11 : PySem.W.nsIn K mainGlobals "count_to" = some (some (.ref f11))) (l11 : K.lookup f11 = some ⟨oc11, od11, .func (PySem.W.fnOf "count_to" "count_to" (defArgs s_count_to) (defBody s_count_to) (defScope s_count_to) .none kV11 dc11 pm11 an11 cd11 ct11), sl11⟩) (c11 : PySem.W.codeIn K cd11 "count_to" = true) (k11 : PySem.W.keepIn K (.ref f11) = true)
    (a12 : PySem.W.nsIn K mainGlobals "_law_cell_at" = some (some (.ref f12))) (l12 : K.lookup f12 = some ⟨oc12, od12, .func (PySem.W.fnOf "_law_cell_at" "_law_cell_at" (defArgs s__law_cell_at) (defBody s__law_cell_at) (defScope s__law_cell_at) .none kV12 dc12 pm12 an12 cd12 ct12), sl12⟩) (c12 : PySem.W.codeIn K cd12 "_law_cell_at" = true) (k12 : PySem.W.keepIn K (.ref f12) = true)
    (a13 : PySem.W.nsIn K mainGlobals "_law_state" = some (some (.ref f13))) (l13 : K.lookup f13 = some ⟨oc13, od13, .func (PySem.W.fnOf "_law_state" "_law_state" (defArgs s__law_state) (defBody s__law_state) (defScope s__law_state) .none kV13 dc13 pm13 an13 cd13 ct13), sl13⟩) (c13 : PySem.W.codeIn K cd13 "_law_state" = true) (k13 : PySem.W.keepIn K (.ref f13) = true)
    (a14 : PySem.W.nsIn K mainGlobals "_law_take" = some (some (.ref f14))) (l14 : K.lookup f14 = some ⟨oc14, od14, .func (PySem.W.fnOf "_law_take" "_law_take" (defArgs s__law_take) (defBody s__law_take) (defScope s__law_take) .none kV14 dc14 pm14 an14 cd14 ct14), sl14⟩) (c14 : PySem.W.codeIn K cd14 "_law_take" = true) (k14 : PySem.W.keepIn K (.ref f14) = true)
    (a15 : PySem.W.nsIn K mainGlobals "_law_net" = some (some (.ref f15))) (l15 : K.lookup f15 = some ⟨oc15, od15, .func (PySem.W.fnOf "_law_net" "_law_net" (defArgs s__law_net) (defBody s__law_net) (defScope s__law_net) .none kV15 dc15 pm15 an15 cd15 ct15), sl15⟩) (c15 : PySem.W.codeIn K cd15 "_law_net" = true) (k15 : PySem.W.keepIn K (.ref f15) = true)
    (a16 : PySem.W.nsIn K mainGlobals "_law_ends" = some (some (.ref f16))) (l16 : K.lookup f16 = some ⟨oc16, od16, .func (PySem.W.fnOf "_law_ends" "_law_ends" (defArgs s__law_ends) (defBody s__law_ends) (defScope s__law_ends) .none kV16 dc16 pm16 an16 cd16 ct16), sl16⟩) (c16 : PySem.W.codeIn K cd16 "_law_ends" = true) (k16 : PySem.W.keepIn K (.ref f16) = true)
    (a17 : PySem.W.nsIn K mainGlobals "_law_right" = some (some (.ref f17))) (l17 : K.lookup f17 = some ⟨oc17, od17, .func (PySem.W.fnOf "_law_right" "_law_right" (defArgs s__law_right) (defBody s__law_right) (defScope s__law_right) .none kV17 dc17 pm17 an17 cd17 ct17), sl17⟩) (c17 : PySem.W.codeIn K cd17 "_law_right" = true) (k17 : PySem.W.keepIn K (.ref f17) = true)
    (a18 : PySem.W.nsIn K mainGlobals "law" = some (some (.ref f18))) (l18 : K.lookup f18 = some ⟨oc18, od18, .func (PySem.W.fnOf "law" "law" (defArgs s_law) (defBody s_law) (defScope s_law) .none kV18 dc18 pm18 an18 cd18 ct18), sl18⟩) (c18 : PySem.W.codeIn K cd18 "law" = true) (k18 : PySem.W.keepIn K (.ref f18) = true)
    (z_all : PySem.W.nsIn K mainGlobals "all" = some none)
    (z_bool : PySem.W.nsIn K mainGlobals "bool" = some none)
    (z_int : PySem.W.nsIn K mainGlobals "int" = some none)
    (z_isinstance : PySem.W.nsIn K mainGlobals "isinstance" = some none)
    (z_len : PySem.W.nsIn K mainGlobals "len" = some none)
    (z_max : PySem.W.nsIn K mainGlobals "max" = some none)
    (z_min : PySem.W.nsIn K mainGlobals "min" = some none)
    (z_range : PySem.W.nsIn K mainGlobals "range" = some none)
    (z_sum : PySem.W.nsIn K mainGlobals "sum" = some none)
    (z_tuple : PySem.W.nsIn K mainGlobals "tuple" = some none)
    (y_MOST_COST_nets : ∃ t, PySem.W.nsIn K mainGlobals "MOST_COST_nets" = some (some (.int 99 t)))
    (y_MOST_COST_walks : ∃ t, PySem.W.nsIn K mainGlobals "MOST_COST_walks" = some (some (.int 600 t)))
    (y_MOST_PLACES : ∃ t, PySem.W.nsIn K mainGlobals "MOST_PLACES" = some (some (.int 10 t)))
    (y_MOST_ROADS : ∃ t, PySem.W.nsIn K mainGlobals "MOST_ROADS" = some (some (.int 30 t)))
    (y_MOST_TIME : ∃ t, PySem.W.nsIn K mainGlobals "MOST_TIME" = some (some (.int 99 t)))
    : ∃ fd : FuncData, (∀ (s : Shared) (v : Value), BindsTo s fd ⟨[v], []⟩ [("_law_script", v)]) ∧ ∀ base : Heap, K.In base → base.Ns mainGlobals mg → FnG P w K mg base (L2.CX P w) 8 fa fd ["_law_script"] (spOf K mg false [false] m_law) := by
  have e := hfa.symm.trans (PySem.W.mg_of X G a18)
  cases e
  have T : Tx mg := {
    n_all := PySem.W.mg_none_of X G z_all
    n_bool := PySem.W.mg_none_of X G z_bool
    n_int := PySem.W.mg_none_of X G z_int
    n_isinstance := PySem.W.mg_none_of X G z_isinstance
    n_len := PySem.W.mg_none_of X G z_len
    n_max := PySem.W.mg_none_of X G z_max
    n_min := PySem.W.mg_none_of X G z_min
    n_range := PySem.W.mg_none_of X G z_range
    n_sum := PySem.W.mg_none_of X G z_sum
    n_tuple := PySem.W.mg_none_of X G z_tuple
    c_MOST_COST_nets := let ⟨t, e⟩ := y_MOST_COST_nets; ⟨t, PySem.W.mg_of X G e⟩
    c_MOST_COST_walks := let ⟨t, e⟩ := y_MOST_COST_walks; ⟨t, PySem.W.mg_of X G e⟩
    c_MOST_PLACES := let ⟨t, e⟩ := y_MOST_PLACES; ⟨t, PySem.W.mg_of X G e⟩
    c_MOST_ROADS := let ⟨t, e⟩ := y_MOST_ROADS; ⟨t, PySem.W.mg_of X G e⟩
    c_MOST_TIME := let ⟨t, e⟩ := y_MOST_TIME; ⟨t, PySem.W.mg_of X G e⟩ }
  refine ⟨PySem.W.fnOf "law" "law" (defArgs s_law) (defBody s_law) (defScope s_law) .none kV18 dc18 pm18 an18 cd18 ct18, fun s v => .of_eq rfl, fun base _ _ => ?_⟩
  have g_is_among : Q_is_among P w K mg base := ok_is_among T  (fun_mk (st := s_is_among) l0 c0 k0) (PySem.W.mg_of X G a0)
  have g_is_road : Q_is_road P w K mg base := ok_is_road T g_is_among (fun_mk (st := s_is_road) l1 c1 k1) (PySem.W.mg_of X G a1)
  have g_is_net : Q_is_net P w K mg base := ok_is_net T g_is_among g_is_road (fun_mk (st := s_is_net) l2 c2 k2) (PySem.W.mg_of X G a2)
  have g_need_net : Q_need_net P w K mg base := ok_need_net T g_is_net (fun_mk (st := s_need_net) l3 c3 k3) (PySem.W.mg_of X G a3)
  have g_is_place : Q_is_place P w K mg base := ok_is_place T g_is_among (fun_mk (st := s_is_place) l4 c4 k4) (PySem.W.mg_of X G a4)
  have g_need_place : Q_need_place P w K mg base := ok_need_place T g_is_place (fun_mk (st := s_need_place) l5 c5 k5) (PySem.W.mg_of X G a5)
  have g_need_ends : Q_need_ends P w K mg base := ok_need_ends T g_need_net g_need_place (fun_mk (st := s_need_ends) l6 c6 k6) (PySem.W.mg_of X G a6)
  have g_next_row : Q_next_row P w K mg base := ok_next_row T  (fun_mk (st := s_next_row) l7 c7 k7) (PySem.W.mg_of X G a7)
  have g_rows_to : Q_rows_to P w K mg base := ok_rows_to T g_next_row (fun_mk (st := s_rows_to) l8 c8 k8) (PySem.W.mg_of X G a8)
  have g_need_cost : Q_need_cost P w K mg base := ok_need_cost T g_is_among (fun_mk (st := s_need_cost) l9 c9 k9) (PySem.W.mg_of X G a9)
  have g_count_of : Q_count_of P w K mg base := ok_count_of T g_need_ends g_rows_to g_need_cost (fun_mk (st := s_count_of) l10 c10 k10) (PySem.W.mg_of X G a10)
  have g_count_to : Q_count_to P w K mg base := ok_count_to T g_need_ends g_rows_to g_need_cost (fun_mk (st := s_count_to) l11 c11 k11) (PySem.W.mg_of X G a11)
  have g__law_cell_at : Q__law_cell_at P w K mg base := ok__law_cell_at T  (fun_mk (st := s__law_cell_at) l12 c12 k12) (PySem.W.mg_of X G a12)
  have g__law_state : Q__law_state P w K mg base := ok__law_state T g__law_cell_at (fun_mk (st := s__law_state) l13 c13 k13) (PySem.W.mg_of X G a13)
  have g__law_take : Q__law_take P w K mg base := ok__law_take T  (fun_mk (st := s__law_take) l14 c14 k14) (PySem.W.mg_of X G a14)
  have g__law_net : Q__law_net P w K mg base := ok__law_net T g__law_take (fun_mk (st := s__law_net) l15 c15 k15) (PySem.W.mg_of X G a15)
  have g__law_ends : Q__law_ends P w K mg base := ok__law_ends T g__law_take (fun_mk (st := s__law_ends) l16 c16 k16) (PySem.W.mg_of X G a16)
  have g__law_right : Q__law_right P w K mg base := ok__law_right T g_count_of g_count_to (fun_mk (st := s__law_right) l17 c17 k17) (PySem.W.mg_of X G a17)
  exact own_law T g__law_state g__law_take g__law_net g__law_ends g__law_right (fun_mk (st := s_law) l18 c18 k18)
end FL
open PySem PySem.W PyProof.Rows
set_option maxHeartbeats 0 in
theorem PySem.Challenge.cw_waysranked_k25_whole_counts_join_holds : PySem.Challenge.rw_waysranked_k25_whole_counts_join.Holds := by
  w_on; o_law; k_head; (case hw => w_witness2)
  k_fill
  refine FL.walkG (l := PySem.Challenge.rw_waysranked_k25_whole_counts_join) (n := 63) (k := 8) (x := "_law_script") (fr := false) (m := FL.m_law) rfl (by decide) rfl ⟨rfl, by decide, by decide⟩ (fun w h Y => PySem.W.kIn_of Y) ?F FL.law_true
  case F =>
    intro w mg fa h KX G hmg
    refine' FL.all_mk KX G hmg ?a0 ?l0 ?c0 ?k0 ?a1 ?l1 ?c1 ?k1 ?a2 ?l2 ?c2 ?k2 ?a3 ?l3 ?c3 ?k3 ?a4 ?l4 ?c4 ?k4 ?a5 ?l5 ?c5 ?k5 ?a6 ?l6 ?c6 ?k6 ?a7 ?l7 ?c7 ?k7 ?a8 ?l8 ?c8 ?k8 ?a9 ?l9 ?c9 ?k9 ?a10 ?l10 ?c10 ?k10 ?a11 ?l11 ?c11 ?k11 ?a12 ?l12 ?c12 ?k12 ?a13 ?l13 ?c13 ?k13 ?a14 ?l14 ?c14 ?k14 ?a15 ?l15 ?c15 ?k15 ?a16 ?l16 ?c16 ?k16 ?a17 ?l17 ?c17 ?k17 ?a18 ?l18 ?c18 ?k18 ?z_all ?z_bool ?z_int ?z_isinstance ?z_len ?z_max ?z_min ?z_range ?z_sum ?z_tuple ?y_MOST_COST_nets ?y_MOST_COST_walks ?y_MOST_PLACES ?y_MOST_ROADS ?y_MOST_TIME
    (case a0 => k_is)
    (case l0 => k_is)
    (case c0 => k_is)
    (case k0 => k_is)
    (case a1 => k_is)
    (case l1 => k_is)
    (case c1 => k_is)
    (case k1 => k_is)
    (case a2 => k_is)
    (case l2 => k_is)
    (case c2 => k_is)
    (case k2 => k_is)
    (case a3 => k_is)
    (case l3 => k_is)
    (case c3 => k_is)
    (case k3 => k_is)
    (case a4 => k_is)
    (case l4 => k_is)
    (case c4 => k_is)
    (case k4 => k_is)
    (case a5 => k_is)
    (case l5 => k_is)
    (case c5 => k_is)
    (case k5 => k_is)
    (case a6 => k_is)
    (case l6 => k_is)
    (case c6 => k_is)
    (case k6 => k_is)
    (case a7 => k_is)
    (case l7 => k_is)
    (case c7 => k_is)
    (case k7 => k_is)
    (case a8 => k_is)
    (case l8 => k_is)
    (case c8 => k_is)
    (case k8 => k_is)
    (case a9 => k_is)
    (case l9 => k_is)
    (case c9 => k_is)
    (case k9 => k_is)
    (case a10 => k_is)
    (case l10 => k_is)
    (case c10 => k_is)
    (case k10 => k_is)
    (case a11 => k_is)
    (case l11 => k_is)
    (case c11 => k_is)
    (case k11 => k_is)
    (case a12 => k_is)
    (case l12 => k_is)
    (case c12 => k_is)
    (case k12 => k_is)
    (case a13 => k_is)
    (case l13 => k_is)
    (case c13 => k_is)
    (case k13 => k_is)
    (case a14 => k_is)
    (case l14 => k_is)
    (case c14 => k_is)
    (case k14 => k_is)
    (case a15 => k_is)
    (case l15 => k_is)
    (case c15 => k_is)
    (case k15 => k_is)
    (case a16 => k_is)
    (case l16 => k_is)
    (case c16 => k_is)
    (case k16 => k_is)
    (case a17 => k_is)
    (case l17 => k_is)
    (case c17 => k_is)
    (case k17 => k_is)
    (case a18 => k_is)
    (case l18 => k_is)
    (case c18 => k_is)
    (case k18 => k_is)
    (case z_all => k_is)
    (case z_bool => k_is)
    (case z_int => k_is)
    (case z_isinstance => k_is)
    (case z_len => k_is)
    (case z_max => k_is)
    (case z_min => k_is)
    (case z_range => k_is)
    (case z_sum => k_is)
    (case z_tuple => k_is)
    (case y_MOST_COST_nets => exact ⟨_, by k_is⟩)
    (case y_MOST_COST_walks => exact ⟨_, by k_is⟩)
    (case y_MOST_PLACES => exact ⟨_, by k_is⟩)
    (case y_MOST_ROADS => exact ⟨_, by k_is⟩)
    (case y_MOST_TIME => exact ⟨_, by k_is⟩)

