import PyProof.Rows.All
import Wide.All
import OpenK.AllK
import Wide.FinOn
import HandS.ForMost
import HandS.ForExc
import HandS.TryMany
import HandS.Walk
import KE.DataEq
import KE.DataCmp
import KE.DataMinMax
import KE.DataAny
import KE.SortCalls
import HandS.TupAny
import HandS.TupMul
import HandS.Wide
import HandS.Style
import HandS.IsInst
import HandS.Flow
import HandS.Conv
import KE.GoesMore
import KE.GoesZip
import KE.GoesEnum
import KE.Datum
import HandS.Flt
import PySem.Challenge.RW_costsworn_k12_stabilised_matrices
set_option Elab.async false
set_option linter.all false
set_option maxRecDepth 100000
set_option maxHeartbeats 4000000
namespace Cw
open PySem PySem.Spec PyProof.Rows L2

abbrev D := PyData
abbrev Fg := PySem.W.Frag
abbrev St := L2.St

/-! ### data in the abstract heap -/
mutual
inductive Rp (K : Fg) (H : Hp) (A : Addr → Prop) : V → D → Prop
  | non : Rp K H A .non .none
  | bl (b : Bool) : Rp K H A (.bl b) (.bool b)
  | int (i : Int) : Rp K H A (.int i) (.int i)
  | str (x : Str) : Rp K H A (.str x) (.str x)
  | lst {a : Addr} {xs : List V} {ds : List D} : H a = some (.lst xs) → ¬ A a → RpAll K H A xs ds → Rp K H A (.ref a) (.list ds)
  | tup {a : Addr} {xs : List V} {ds : List D} : SqT K H a xs → RpAll K H A xs ds → Rp K H A (.ref a) (.tuple ds)
inductive RpAll (K : Fg) (H : Hp) (A : Addr → Prop) : List V → List D → Prop
  | nil : RpAll K H A [] []
  | cons {v : V} {vs : List V} {d : D} {ds : List D} : Rp K H A v d → RpAll K H A vs ds → RpAll K H A (v :: vs) (d :: ds)
end

section
variable {K : Fg} {H H' : Hp} {A A' : Addr → Prop}
mutual
theorem Rp.dp : ∀ {v : V} {d : D}, Rp K H A v d → Dp K H v d
  | _, _, .non => .non
  | _, _, .bl b => .bl b
  | _, _, .int i => .int i
  | _, _, .str x => .str x
  | _, _, .lst h _ r => .lst (.inl (.inl h)) (RpAll.dp r)
  | _, _, .tup h r => .tup h (RpAll.dp r)
theorem RpAll.dp : ∀ {vs : List V} {ds : List D}, RpAll K H A vs ds → DpAll K H vs ds
  | _, _, .nil => .nil
  | _, _, .cons h r => .cons (Rp.dp h) (RpAll.dp r)
end

/-- what does not stand in B is kept; tuples and what is locked are kept wherever they stand -/
structure Ext (B : Addr → Prop) (H H' : Hp) : Prop where
  keep : ∀ a o, H a = some o → ¬ B a → H' a = some o
  tups : ∀ a xs, H a = some (.tup xs) → H' a = some (.tup xs)
  frzs : ∀ a o u, H a = some (.frz o u) → H' a = some (.frz o u)
  there : ∀ a o, H a = some o → ∃ o', H' a = some o'
theorem Ext.refl {B : Addr → Prop} : Ext B H H := ⟨fun _ _ h _ => h, fun _ _ h => h, fun _ _ _ h => h, fun _ o h => ⟨o, h⟩⟩
theorem Ext.trans {B : Addr → Prop} {H1 : Hp} (a : Ext B H H1) (b : Ext B H1 H') : Ext B H H' :=
  ⟨fun c o h n => b.keep c o (a.keep c o h n) n, fun c xs h => b.tups c xs (a.tups c xs h), fun c o u h => b.frzs c o u (a.frzs c o u h), fun c o h => let ⟨o', h'⟩ := a.there c o h; b.there c o' h'⟩
theorem Ext.mono {B B' : Addr → Prop} (a : Ext B H H') (h : ∀ c, B c → B' c) : Ext B' H H' :=
  ⟨fun c o e n => a.keep c o e fun z => n (h c z), a.tups, a.frzs, a.there⟩
theorem Ext.same {B : Addr → Prop} (a : Same H H') : Ext B H H' := ⟨fun c o e _ => a c o e, fun c xs e => a c _ e, fun c o u e => a c _ e, fun c o e => ⟨o, a c o e⟩⟩
theorem Ext.sqT {B : Addr → Prop} (e : Ext B H H') {a : Addr} {xs : List V} (h : SqT K H a xs) : SqT K H' a xs := by
  rcases h with (h | ⟨o, h⟩) | h
  · exact .inl (.inl (e.tups _ _ h))
  · exact .inl (.inr ⟨o, e.frzs _ _ _ h⟩)
  · exact .inr h
theorem Ext.rd {B : Addr → Prop} (e : Ext B H H') {a : Addr} {o : HO} (h : Rd H a o) (n : ¬ B a) : Rd H' a o := by
  rcases h with h | ⟨ob, h⟩
  · exact .inl (e.keep _ _ h n)
  · exact .inr ⟨ob, e.frzs _ _ _ h⟩
theorem rd_there {a : Addr} {o : HO} (h : Rd H a o) : ∃ u, H a = some u := by
  rcases h with h | ⟨ob, h⟩
  · exact ⟨_, h⟩
  · exact ⟨_, h⟩

mutual
theorem Rp.ext {B : Addr → Prop} (e : Ext B H H') (hB : ∀ a, B a → A a) : ∀ {v : V} {d : D}, Rp K H A v d → Rp K H' A v d
  | _, _, .non => .non
  | _, _, .bl b => .bl b
  | _, _, .int i => .int i
  | _, _, .str x => .str x
  | _, _, .lst h n r => .lst (e.keep _ _ h fun z => n (hB _ z)) n (RpAll.ext e hB r)
  | _, _, .tup h r => .tup (e.sqT h) (RpAll.ext e hB r)
theorem RpAll.ext {B : Addr → Prop} (e : Ext B H H') (hB : ∀ a, B a → A a) : ∀ {vs : List V} {ds : List D}, RpAll K H A vs ds → RpAll K H' A vs ds
  | _, _, .nil => .nil
  | _, _, .cons h r => .cons (Rp.ext e hB h) (RpAll.ext e hB r)
end
mutual
/-- other addresses avoided: those of A' that stand in the heap are of A -/
theorem Rp.av (hA : ∀ a, A' a → A a ∨ H a = none) : ∀ {v : V} {d : D}, Rp K H A v d → Rp K H A' v d
  | _, _, .non => .non
  | _, _, .bl b => .bl b
  | _, _, .int i => .int i
  | _, _, .str x => .str x
  | _, _, .lst h n r => .lst h (fun z => (hA _ z).elim n fun q => by rw [q] at h; cases h) (RpAll.av hA r)
  | _, _, .tup h r => .tup h (RpAll.av hA r)
theorem RpAll.av (hA : ∀ a, A' a → A a ∨ H a = none) : ∀ {vs : List V} {ds : List D}, RpAll K H A vs ds → RpAll K H A' vs ds
  | _, _, .nil => .nil
  | _, _, .cons h r => .cons (Rp.av hA h) (RpAll.av hA r)
end
mutual
/-- no list within -/
def pureD : D → Bool
  | .none | .bool _ | .int _ | .str _ => true
  | .tuple ds => pureDs ds
  | .list _ | .dict _ => false
def pureDs : List D → Bool
  | [] => true
  | d :: ds => pureD d && pureDs ds
end
mutual
theorem Rp.pure : ∀ {v : V} {d : D}, pureD d = true → Rp K H A v d → Rp K H A' v d
  | _, _, _, .non => .non
  | _, _, _, .bl b => .bl b
  | _, _, _, .int i => .int i
  | _, _, _, .str x => .str x
  | _, _, p, .lst h n r => by rw [pureD] at p; cases p
  | _, _, p, .tup h r => .tup h (RpAll.pure (by rw [pureD] at p; exact p) r)
theorem RpAll.pure : ∀ {vs : List V} {ds : List D}, pureDs ds = true → RpAll K H A vs ds → RpAll K H A' vs ds
  | _, _, _, .nil => .nil
  | _, _, p, .cons h r => by
    rw [pureDs, Bool.and_eq_true] at p
    exact .cons (Rp.pure p.1 h) (RpAll.pure p.2 r)
end
theorem RpAll.len : ∀ {vs : List V} {ds : List D}, RpAll K H A vs ds → vs.length = ds.length
  | _, _, .nil => rfl
  | _, _, .cons _ r => by simp [RpAll.len r]
theorem RpAll.get : ∀ {vs : List V} {ds : List D} {i : Nat} {d : D}, RpAll K H A vs ds → ds[i]? = some d → ∃ v, vs[i]? = some v ∧ Rp K H A v d
  | _, _, _, _, .nil, e => by simp at e
  | _, _, 0, _, .cons h _, e => by simp at e; subst e; exact ⟨_, rfl, h⟩
  | _, _, i + 1, d, .cons _ r, e => by
    obtain ⟨v, h1, h2⟩ := RpAll.get (i := i) (d := d) r (by simpa using e)
    exact ⟨v, by simpa using h1, h2⟩
theorem RpAll.getV : ∀ {vs : List V} {ds : List D} {i : Nat} {v : V}, RpAll K H A vs ds → vs[i]? = some v → ∃ d, ds[i]? = some d ∧ Rp K H A v d
  | _, _, _, _, .nil, e => by simp at e
  | _, _, 0, _, .cons h _, e => by simp at e; subst e; exact ⟨_, rfl, h⟩
  | _, _, i + 1, v, .cons _ r, e => by
    obtain ⟨d, h1, h2⟩ := RpAll.getV (i := i) (v := v) r (by simpa using e)
    exact ⟨d, by simpa using h1, h2⟩
theorem RpAll.append : ∀ {vs ws : List V} {ds es : List D}, RpAll K H A vs ds → RpAll K H A ws es → RpAll K H A (vs ++ ws) (ds ++ es)
  | _, _, _, _, .nil, s => s
  | _, _, _, _, .cons h r, s => .cons h (RpAll.append r s)
theorem RpAll.take : ∀ {vs : List V} {ds : List D} (n : Nat), RpAll K H A vs ds → RpAll K H A (vs.take n) (ds.take n)
  | _, _, 0, _ => .nil
  | _, _, _ + 1, .nil => .nil
  | _, _, n + 1, .cons h r => .cons h (RpAll.take n r)
theorem RpAll.drop : ∀ {vs : List V} {ds : List D} (n : Nat), RpAll K H A vs ds → RpAll K H A (vs.drop n) (ds.drop n)
  | _, _, 0, r => r
  | _, _, _ + 1, .nil => .nil
  | _, _, n + 1, .cons _ r => RpAll.drop n r
theorem RpAll.set {v : V} {d : D} (h : Rp K H A v d) : ∀ {vs : List V} {ds : List D} (i : Nat), RpAll K H A vs ds → RpAll K H A (vs.set i v) (ds.set i d)
  | _, _, _, .nil => .nil
  | _, _, 0, .cons _ r => .cons h r
  | _, _, i + 1, .cons q r => .cons q (RpAll.set h i r)
theorem RpAll.dropLast {vs : List V} {ds : List D} (r : RpAll K H A vs ds) : RpAll K H A vs.dropLast ds.dropLast := by
  rw [List.dropLast_eq_take, List.dropLast_eq_take, r.len]
  exact r.take _
theorem RpAll.eraseIdx : ∀ {vs : List V} {ds : List D} (i : Nat), RpAll K H A vs ds → RpAll K H A (vs.eraseIdx i) (ds.eraseIdx i)
  | _, _, _, .nil => .nil
  | _, _, 0, .cons _ r => r
  | _, _, i + 1, .cons q r => .cons q (RpAll.eraseIdx i r)
theorem RpAll.reverse : ∀ {vs : List V} {ds : List D}, RpAll K H A vs ds → RpAll K H A vs.reverse ds.reverse
  | _, _, .nil => .nil
  | _, _, .cons h r => by
    rw [List.reverse_cons, List.reverse_cons]
    exact RpAll.append (RpAll.reverse r) (.cons h .nil)
theorem RpAll.rep {vs : List V} {ds : List D} (r : RpAll K H A vs ds) : ∀ k : Nat, RpAll K H A (List.replicate k vs).flatten (List.replicate k ds).flatten
  | 0 => .nil
  | k + 1 => by
    rw [List.replicate_succ, List.replicate_succ, List.flatten_cons, List.flatten_cons]
    exact r.append (RpAll.rep r k)
theorem RpAll.ints : ∀ (ns : List Int), RpAll K H A (ns.map V.int) (ns.map PyData.int)
  | [] => .nil
  | n :: ns => .cons (.int n) (RpAll.ints ns)
theorem RpAll.ofInts : ∀ {ns : List Int} {vs : List V}, RpAll K H A vs (ns.map PyData.int) → vs = ns.map V.int
  | [], _, h => by cases h; rfl
  | n :: ns, _, h => by
    cases h with
    | cons h r =>
      cases h
      rw [RpAll.ofInts r]; rfl
theorem RpAll.ofBools : ∀ {bs : List Bool} {vs : List V}, RpAll K H A vs (bs.map PyData.bool) → vs = bs.map V.bl
  | [], _, h => by cases h; rfl
  | n :: ns, _, h => by
    cases h with
    | cons h r =>
      cases h
      rw [RpAll.ofBools r]; rfl
theorem Rp.list {v : V} {ds : List D} (h : Rp K H A v (.list ds)) : ∃ a xs, v = .ref a ∧ H a = some (.lst xs) ∧ RpAll K H A xs ds := by
  cases h with
  | lst h n r => exact ⟨_, _, rfl, h, r⟩
theorem Rp.tuple {v : V} {ds : List D} (h : Rp K H A v (.tuple ds)) : ∃ a xs, v = .ref a ∧ SqT K H a xs ∧ RpAll K H A xs ds := by
  cases h with
  | tup h r => exact ⟨_, _, rfl, h, r⟩
end
end Cw

namespace Cw
open PySem PySem.Spec PyProof.Rows L2

/-! ### what is drawn from; own objects; slots -/
abbrev Dk := List Int × Int × Int
/-- the three machines of the laws: a list, a dict, a dict that goes round -/
def repA (d c : Addr) (s : Dk) (H : Hp) : Prop := H d = some (.lst [.ref c, .int s.2.1, .int s.2.2]) ∧ H c = some (.lst (s.1.map V.int)) ∧ d ≠ c
def repB (d c : Addr) (s : Dk) (H : Hp) : Prop := H d = some (.dK [(.inr "cells", .ref c), (.inr "digits", .int s.2.1), (.inr "mixed", .int s.2.2)]) ∧ H c = some (.lst (s.1.map V.int)) ∧ d ≠ c
def repC (d c : Addr) (s : Dk) (H : Hp) : Prop := H d = some (.dK [(.inr "cells", .ref c), (.inr "at", .int s.2.1), (.inr "turn", .int s.2.2)]) ∧ H c = some (.lst (s.1.map V.int)) ∧ d ≠ c
inductive WdIs : Nat → V → (Addr → Prop) → (Dk → Hp → Prop) → Prop where
  | a (d c : Addr) : WdIs 1 (.ref d) (fun a => a = d ∨ a = c) (repA d c)
  | b (d c : Addr) : WdIs 2 (.ref d) (fun a => a = d ∨ a = c) (repB d c)
  | c (d c : Addr) : WdIs 3 (.ref d) (fun a => a = d ∨ a = c) (repC d c)
  | no (dv : V) (df : Addr → Prop) (rep : Dk → Hp → Prop) : WdIs 0 dv df rep
structure Wd where
  kd : Nat
  dv : V
  df : Addr → Prop
  rep : Dk → Hp → Prop
  lay : ∀ s H, rep s H → ∀ a, df a → ∃ o, H a = some o ∧ Mut (some o)
  fr : ∀ s H H', rep s H → (∀ a, df a → H' a = H a) → rep s H'
  is : WdIs kd dv df rep
/-- an object that one slot alone holds -/
inductive OV where
  | lst (ds : List D)
def OvOk (K : Fg) (A : Addr → Prop) (H : Hp) : OV → Addr → Prop
  | .lst ds, a => ∃ xs, H a = some (.lst xs) ∧ RpAll K H A xs ds
def OV.dat : OV → D
  | .lst ds => .list ds
inductive SV where
  | un | va (d : D) | ow (o : OV) | dk (k : Nat) | fv (x : Str) | sc (ns : List Int)
def SV.frz : SV → SV
  | .ow o => .va o.dat
  | v => v
inductive Res (α : Type) where
  | ok (a : α) (s : Dk) | exc (c : Str) (s : Dk) | bad
def Res.bind {α β : Type} (r : Res α) (k : α → Dk → Res β) : Res β :=
  match r with
  | .ok a s => k a s
  | .exc c s => .exc c s
  | .bad => .bad
def Res.lift {α : Type} (o : Option α) (s : Dk) : Res α :=
  match o with
  | some a => .ok a s
  | none => .bad
theorem Res.bind_ok {α β : Type} (a : α) (s : Dk) (k : α → Dk → Res β) : (Res.ok a s).bind k = k a s := rfl
theorem Res.bind_exc {α β : Type} (c : Str) (s : Dk) (k : α → Dk → Res β) : (Res.exc c s : Res α).bind k = .exc c s := rfl
theorem Res.bind_bad {α β : Type} (k : α → Dk → Res β) : (Res.bad : Res α).bind k = .bad := rfl
abbrev En := List SV
abbrev Sem1 (α : Type) := En → Dk → Res α
/-- the class of an exception by its name -/
def xv (mg : Str → Option Value) (c : Str) : Value := (mg c).getD .none

/-- the script's list: locked, or of the written part -/
def ScOk (K : Fg) (H : Hp) (a : Addr) (ns : List Int) : Prop := (∃ o, H a = some (.frz o (.lst (ns.map V.int)))) ∨ ∀ H', SqL K H' a (ns.map V.int)
theorem ScOk.ext {K : Fg} {H H' : Hp} {a : Addr} {ns : List Int} {B : Addr → Prop} (h : ScOk K H a ns) (e : Ext B H H') : ScOk K H' a ns := h.elim (fun ⟨o, q⟩ => .inl ⟨o, e.frzs _ _ _ q⟩) .inr
theorem ScOk.sq {K : Fg} {H : Hp} {a : Addr} {ns : List Int} (h : ScOk K H a ns) : SqL K H a (ns.map V.int) := h.elim (fun ⟨o, q⟩ => .inl (.inr ⟨o, q⟩)) fun q => q H
def SvOk (K : Fg) (mg : Str → Option Value) (wd : Wd) (A : Addr → Prop) (H : Hp) : SV → Option (Option V) → Prop
  | .un, _ => True
  | .va d, x => ∃ v, x = some (some v) ∧ Rp K H A v d
  | .ow o, x => ∃ a, x = some (some (.ref a)) ∧ A a ∧ ¬ wd.df a ∧ OvOk K A H o a
  | .dk k, x => wd.kd = k ∧ x = some (some wd.dv)
  | .fv n, x => ∃ f, x = some (some (.ref f)) ∧ mg n = some (.ref f)
  | .sc ns, x => ∃ a, x = some (some (.ref a)) ∧ ScOk K H a ns
structure Good (K : Fg) (mg : Str → Option Value) (wd : Wd) (A0 A : Addr → Prop) (H0 : Hp) (ρ : En) (s : Dk) (σ : St) (H : Hp) : Prop where
  len : ρ.length = σ.length
  slot : ∀ (i : Nat) (sv : SV), ρ[i]? = some sv → SvOk K mg wd A H sv σ[i]?
  dis : ∀ (i j : Nat) (o u : OV) (a : Addr), i ≠ j → ρ[i]? = some (.ow o) → ρ[j]? = some (.ow u) → σ[i]? = some (some (.ref a)) → σ[j]? = some (some (.ref a)) → False
  own0 : ∀ (i : Nat) (o : OV) (a : Addr), ρ[i]? = some (.ow o) → σ[i]? = some (some (.ref a)) → H0 a = none
  a0 : ∀ a, A0 a → A a
  a0h : ∀ a, A0 a → ∃ o, H0 a = some o
  ah : ∀ a, A a → ∃ o, H a = some o
  df0 : ∀ a, wd.df a → A0 a
  deck : wd.rep s H
  ext : Ext wd.df H0 H

section
variable {K : Fg} {mg : Str → Option Value} {wd : Wd} {A0 A : Addr → Prop} {H0 H H' : Hp} {ρ : En} {s s' : Dk} {σ : St}
theorem OvOk.there {o : OV} {a : Addr} (h : OvOk K A H o a) : ∃ u, H a = some u ∧ Mut (some u) := by
  cases o with
  | lst ds => obtain ⟨xs, e, _⟩ := h; exact ⟨_, e, trivial⟩
theorem OvOk.ext {o : OV} {a : Addr} {B : Addr → Prop} (h : OvOk K A H o a) (e : Ext B H H') (hB : ∀ a, B a → A a) (n : H' a = H a) : OvOk K A H' o a := by
  cases o with
  | lst ds => obtain ⟨xs, q, r⟩ := h; exact ⟨xs, by rw [n]; exact q, r.ext e hB⟩
theorem OvOk.av {o : OV} {a : Addr} {A' : Addr → Prop} (h : OvOk K A H o a) (hA : ∀ a, A' a → A a ∨ H a = none) : OvOk K A' H o a := by
  cases o with
  | lst ds => obtain ⟨xs, q, r⟩ := h; exact ⟨xs, q, r.av hA⟩
theorem OvOk.frz {o : OV} {a : Addr} {A' : Addr → Prop} (h : OvOk K A H o a) (hA : ∀ a, A' a → A a ∨ H a = none) (n : ¬ A' a) : Rp K H A' (.ref a) o.dat := by
  cases o with
  | lst ds => obtain ⟨xs, q, r⟩ := h; exact .lst q n (r.av hA)
/-- the deck has turned, all else is kept -/
theorem Good.step (G : Good K mg wd A0 A H0 ρ s σ H) (e : Ext wd.df H H') (r : wd.rep s' H') : Good K mg wd A0 A H0 ρ s' σ H' where
  len := G.len
  slot := fun i sv q => by
    have h := G.slot i sv q
    cases sv with
    | un => trivial
    | va d => obtain ⟨v, q1, q2⟩ := h; exact ⟨v, q1, q2.ext e fun a z => G.a0 a (G.df0 a z)⟩
    | ow o =>
      obtain ⟨a, q1, q2, q3, q4⟩ := h
      obtain ⟨u, q5, _⟩ := q4.there
      exact ⟨a, q1, q2, q3, q4.ext e (fun a z => G.a0 a (G.df0 a z)) (by rw [q5]; exact e.keep _ _ q5 q3)⟩
    | dk => exact h
    | fv n => exact h
    | sc ns => obtain ⟨a, q1, q2⟩ := h; exact ⟨a, q1, q2.ext e⟩
  dis := G.dis
  own0 := G.own0
  a0 := G.a0
  a0h := G.a0h
  ah := fun a q => let ⟨o, z⟩ := G.ah a q; e.there a o z
  df0 := G.df0
  deck := r
  ext := G.ext.trans e
theorem rep_same (r : wd.rep s H) (e : Same H H') : wd.rep s H' := wd.fr s H H' r fun a z => by
  obtain ⟨o, q, _⟩ := wd.lay s H r a z
  rw [q]; exact e a o q
theorem Good.same (G : Good K mg wd A0 A H0 ρ s σ H) (e : Same H H') : Good K mg wd A0 A H0 ρ s σ H' := G.step (Ext.same e) (rep_same G.deck e)
theorem Good.dfA (G : Good K mg wd A0 A H0 ρ s σ H) : ∀ a, wd.df a → A a := fun a z => G.a0 a (G.df0 a z)
theorem Good.rp (G : Good K mg wd A0 A H0 ρ s σ H) {v : V} {d : D} (r : Rp K H A v d) (e : Ext wd.df H H') : Rp K H' A v d := r.ext e G.dfA
theorem Good.rps (G : Good K mg wd A0 A H0 ρ s σ H) {v : List V} {d : List D} (r : RpAll K H A v d) (e : Ext wd.df H H') : RpAll K H' A v d := r.ext e G.dfA
end

/-! ### the readings -/
section
variable (K : Fg) (mg : Str → Option Value)
def ResE (wd : Wd) (A0 A : Addr → Prop) (H0 : Hp) (ρ : En) (σ : St) (H : Hp) (W : WX) (Q : VK) : Res D → Prop
  | .ok d s' => ∀ v H', Good K mg wd A0 A H0 ρ s' σ H' → Ext wd.df H H' → Rp K H' A v d → Q v H'
  | .exc c s' => ∀ H', Good K mg wd A0 A H0 ρ s' σ H' → Ext wd.df H H' → W (xv mg c) none σ H'
  | .bad => False
def ResT (wd : Wd) (A0 A : Addr → Prop) (H0 : Hp) (ρ : En) (σ : St) (H : Hp) (W : WX) (Q : Bool → Hp → Prop) : Res Bool → Prop
  | .ok b s' => ∀ H', Good K mg wd A0 A H0 ρ s' σ H' → Ext wd.df H H' → Q b H'
  | .exc c s' => ∀ H', Good K mg wd A0 A H0 ρ s' σ H' → Ext wd.df H H' → W (xv mg c) none σ H'
  | .bad => False
def ArgOk (wd : Wd) (A : Addr → Prop) (H : Hp) : SV → V → Prop
  | .va d, v => Rp K H A v d
  | .dk k, v => wd.kd = k ∧ v = wd.dv
  | .fv n, v => ∃ f, v = .ref f ∧ mg n = some (.ref f)
  | .sc ns, v => ∃ a, v = .ref a ∧ ScOk K H a ns
  | _, _ => False
abbrev ArgAll (wd : Wd) (A : Addr → Prop) (H : Hp) : List SV → List V → Prop := Paired (ArgOk K mg wd A H)
def ResA (wd : Wd) (A0 A : Addr → Prop) (H0 : Hp) (ρ : En) (σ : St) (H : Hp) (W : WX) (Q : List V → Hp → Prop) : Res (List SV) → Prop
  | .ok ds s' => ∀ vs H', Good K mg wd A0 A H0 ρ s' σ H' → Ext wd.df H H' → ArgAll K mg wd A H' ds vs → Q vs H'
  | .exc c s' => ∀ H', Good K mg wd A0 A H0 ρ s' σ H' → Ext wd.df H H' → W (xv mg c) none σ H'
  | .bad => False
def tE (f : Sem1 D) (W : WX) : TE := fun σ H Q => ∃ wd A0 A H0 ρ s, Good K mg wd A0 A H0 ρ s σ H ∧ ResE K mg wd A0 A H0 ρ σ H W Q (f ρ s)
def tT (f : Sem1 Bool) (W : WX) : TT := fun σ H Q => ∃ wd A0 A H0 ρ s, Good K mg wd A0 A H0 ρ s σ H ∧ ResT K mg wd A0 A H0 ρ σ H W Q (f ρ s)
def tA (f : Sem1 (List SV)) (W : WX) : TA := fun σ H Q => ∃ wd A0 A H0 ρ s, Good K mg wd A0 A H0 ρ s σ H ∧ ResA K mg wd A0 A H0 ρ σ H W Q (f ρ s)
end
/-- e computes f -/
abbrev EvE (X : Cx) (W : WX) (e : Expr) (f : Sem1 D) : Prop := PE X e (tE X.K X.mg f W)
abbrev EvT (X : Cx) (W : WX) (e : Expr) (f : Sem1 Bool) : Prop := PT X e (tT X.K X.mg f W)
abbrev EvA (X : Cx) (W : WX) (es : List Expr) (f : Sem1 (List SV)) : Prop := PA X es (tA X.K X.mg f W)

section
variable {X : Cx} {W : WX}
theorem _root_.L2.PE.imp {e : Expr} {t t' : TE} (h : PE X e t) (i : ∀ σ H Q, t' σ H Q → t σ H Q) : PE X e t' := ⟨fun pins s σ H Q I q => h.run pins s σ H Q I (i σ H Q q)⟩
theorem _root_.L2.PT.imp {e : Expr} {t t' : TT} (h : PT X e t) (i : ∀ σ H Q, t' σ H Q → t σ H Q) : PT X e t' := ⟨fun pins s σ H Q I q => h.run pins s σ H Q I (i σ H Q q)⟩
theorem _root_.L2.PW.imp {e : Expr} {t t' : TT} (h : PW X e t) (i : ∀ σ H Q, t' σ H Q → t σ H Q) : PW X e t' := ⟨fun wh pins s σ H Q I q => h.run wh pins s σ H Q I (i σ H Q q)⟩
theorem _root_.L2.PA.imp {e : List Expr} {t t' : TA} (h : PA X e t) (i : ∀ σ H Q, t' σ H Q → t σ H Q) : PA X e t' := ⟨fun p pins s σ H Q I q => h.run p pins s σ H Q I (i σ H Q q)⟩
theorem _root_.L2.PS.imp {e : Stmt} {t t' : TS} (h : PS X e t) (i : ∀ D σ H, t' D σ H → t D σ H) : PS X e t' := ⟨fun pins s σ H D I q => h.run pins s σ H D I (i D σ H q)⟩
theorem _root_.L2.PSs.imp {e : List Stmt} {t t' : TS} (h : PSs X e t) (i : ∀ D σ H, t' D σ H → t D σ H) : PSs X e t' := ⟨fun pins s σ H D I q => h.run pins s σ H D I (i D σ H q)⟩

/-- the step from a part to what follows: from the whole's reading to the part's -/
theorem tE_bind {K : Fg} {mg : Str → Option Value} {wd : Wd} {A0 A : Addr → Prop} {H0 H : Hp} {ρ : En} {s : Dk} {σ : St} {f : Sem1 D} {Q : VK} (G : Good K mg wd A0 A H0 ρ s σ H)
    (hok : ∀ d s' v H', f ρ s = .ok d s' → Good K mg wd A0 A H0 ρ s' σ H' → Ext wd.df H H' → Rp K H' A v d → Q v H')
    (hexc : ∀ c s' H', f ρ s = .exc c s' → Good K mg wd A0 A H0 ρ s' σ H' → Ext wd.df H H' → W (xv mg c) none σ H') (hbad : f ρ s = .bad → False) : tE K mg f W σ H Q := by
  refine ⟨wd, A0, A, H0, ρ, s, G, ?_⟩
  cases e : f ρ s with
  | ok d s' => exact fun v H' => hok d s' v H' e
  | exc c s' => exact fun H' => hexc c s' H' e
  | bad => exact hbad e
theorem tT_bind {K : Fg} {mg : Str → Option Value} {wd : Wd} {A0 A : Addr → Prop} {H0 H : Hp} {ρ : En} {s : Dk} {σ : St} {f : Sem1 Bool} {Q : Bool → Hp → Prop} (G : Good K mg wd A0 A H0 ρ s σ H)
    (hok : ∀ d s' H', f ρ s = .ok d s' → Good K mg wd A0 A H0 ρ s' σ H' → Ext wd.df H H' → Q d H')
    (hexc : ∀ c s' H', f ρ s = .exc c s' → Good K mg wd A0 A H0 ρ s' σ H' → Ext wd.df H H' → W (xv mg c) none σ H') (hbad : f ρ s = .bad → False) : tT K mg f W σ H Q := by
  refine ⟨wd, A0, A, H0, ρ, s, G, ?_⟩
  cases e : f ρ s with
  | ok d s' => exact fun H' => hok d s' H' e
  | exc c s' => exact fun H' => hexc c s' H' e
  | bad => exact hbad e
theorem tA_bind {K : Fg} {mg : Str → Option Value} {wd : Wd} {A0 A : Addr → Prop} {H0 H : Hp} {ρ : En} {s : Dk} {σ : St} {f : Sem1 (List SV)} {Q : List V → Hp → Prop} (G : Good K mg wd A0 A H0 ρ s σ H)
    (hok : ∀ d s' v H', f ρ s = .ok d s' → Good K mg wd A0 A H0 ρ s' σ H' → Ext wd.df H H' → ArgAll K mg wd A H' d v → Q v H')
    (hexc : ∀ c s' H', f ρ s = .exc c s' → Good K mg wd A0 A H0 ρ s' σ H' → Ext wd.df H H' → W (xv mg c) none σ H') (hbad : f ρ s = .bad → False) : tA K mg f W σ H Q := by
  refine ⟨wd, A0, A, H0, ρ, s, G, ?_⟩
  cases e : f ρ s with
  | ok d s' => exact fun v H' => hok d s' v H' e
  | exc c s' => exact fun H' => hexc c s' H' e
  | bad => exact hbad e

/-! ### names, constants -/
def fVar (i : Nat) : Sem1 D := fun ρ s => match ρ[i]? with
  | some (.va d) => .ok d s
  | _ => .bad
theorem ev_var {i : Nat} {x : Str} {pos : Pos} (h : PE X (.Name x pos) (tVar i)) : EvE X W (.Name x pos) (fVar i) := by
  refine h.imp fun σ H Q q => ?_
  obtain ⟨wd, A0, A, H0, ρ, s, G, q⟩ := q
  unfold fVar at q
  cases e : ρ[i]? with
  | none => rw [e] at q; exact q.elim
  | some sv =>
    rw [e] at q
    cases sv with
    | va d =>
      obtain ⟨v, e1, r⟩ := G.slot i _ e
      exact ⟨v, e1, q v H G Ext.refl r⟩
    | un => exact q.elim
    | ow _ => exact q.elim
    | dk => exact q.elim
    | fv _ => exact q.elim
    | sc _ => exact q.elim
def fC (d : D) : Sem1 D := fun _ s => .ok d s
theorem ev_c {e : Expr} {v : V} {d : D} (h : PE X e (tC v)) (r : ∀ H A, Rp X.K H A v d) : EvE X W e (fC d) := by
  refine h.imp fun σ H Q q => ?_
  obtain ⟨wd, A0, A, H0, ρ, s, G, q⟩ := q
  exact q v H G Ext.refl (r H A)
theorem ev_int {i j pos} : EvE X W (.Constant (.int i) j pos) (fC (.int i)) := ev_c pe_int fun _ _ => .int i
theorem ev_bl {b j pos} : EvE X W (.Constant (.bool b) j pos) (fC (.bool b)) := ev_c pe_bl fun _ _ => .bl b
theorem ev_non {j pos} : EvE X W (.Constant .none j pos) (fC .none) := ev_c pe_non fun _ _ => .non
theorem ev_str {x j pos} : EvE X W (.Constant (.str x) j pos) (fC (.str x)) := ev_c pe_str fun _ _ => .str x

/-! ### operators by values -/
/-- the values' data give r -/
def rD (K : Fg) (g : D → D → Option D) : R2 := fun x y H Q => ∃ (A : Addr → Prop) (d e r : D), (∀ a, A a → ∃ o, H a = some o) ∧ Rp K H A x d ∧ Rp K H A y e ∧ g d e = some r ∧ ∀ v H', Same H H' → Rp K H' A v r → Q v H'
def rU (K : Fg) (g : D → Option D) : V → Hp → VK → Prop := fun x H Q => ∃ (A : Addr → Prop) (d r : D), (∀ a, A a → ∃ o, H a = some o) ∧ Rp K H A x d ∧ g d = some r ∧ ∀ v H', Same H H' → Rp K H' A v r → Q v H'
def rL (K : Fg) (g : List D → Option D) : List V → Hp → VK → Prop := fun xs H Q => ∃ (A : Addr → Prop) (ds : List D) (r : D), (∀ a, A a → ∃ o, H a = some o) ∧ RpAll K H A xs ds ∧ g ds = some r ∧ ∀ v H', Same H H' → Rp K H' A v r → Q v H'
def fBin (g : D → D → Option D) (fa fb : Sem1 D) : Sem1 D := fun ρ s => (fa ρ s).bind fun x s1 => (fb ρ s1).bind fun y s2 => .lift (g x y) s2
def fUn (g : D → Option D) (fa : Sem1 D) : Sem1 D := fun ρ s => (fa ρ s).bind fun x s1 => .lift (g x) s1
theorem tE_bin {K : Fg} {mg : Str → Option Value} {g : D → D → Option D} {fa fb : Sem1 D} {σ : St} {H : Hp} {Q : VK} (h : tE K mg (fBin g fa fb) W σ H Q) : tOp (rD K g) (tE K mg fa W) (tE K mg fb W) σ H Q := by
  obtain ⟨wd, A0, A, H0, ρ, s, G, q⟩ := h
  unfold fBin at q
  refine tE_bind G (fun x s1 v H1 e1 G1 x1 r1 => ?_) (fun c s1 H1 e1 G1 x1 => by rw [e1] at q; exact q H1 G1 x1) (fun e1 => by rw [e1] at q; exact q)
  rw [e1, Res.bind_ok] at q
  refine tE_bind G1 (fun y s2 u H2 e2 G2 x2 r2 => ?_) (fun c s2 H2 e2 G2 x2 => by rw [e2] at q; exact q H2 G2 (x1.trans x2)) (fun e2 => by rw [e2] at q; exact q)
  rw [e2, Res.bind_ok] at q
  cases e3 : g x y with
  | none => rw [e3] at q; exact q.elim
  | some r =>
    rw [e3] at q
    exact ⟨A, x, y, r, G2.ah, G1.rp r1 x2, r2, e3, fun w H3 sm r3 => q w H3 (G2.same sm) (x1.trans (x2.trans (Ext.same sm))) r3⟩
theorem tE_un {K : Fg} {mg : Str → Option Value} {g : D → Option D} {fa : Sem1 D} {σ : St} {H : Hp} {Q : VK} (h : tE K mg (fUn g fa) W σ H Q) : tUn (rU K g) (tE K mg fa W) σ H Q := by
  obtain ⟨wd, A0, A, H0, ρ, s, G, q⟩ := h
  unfold fUn at q
  refine tE_bind G (fun x s1 v H1 e1 G1 x1 r1 => ?_) (fun c s1 H1 e1 G1 x1 => by rw [e1] at q; exact q H1 G1 x1) (fun e1 => by rw [e1] at q; exact q)
  rw [e1, Res.bind_ok] at q
  cases e3 : g x with
  | none => rw [e3] at q; exact q.elim
  | some r =>
    rw [e3] at q
    exact ⟨A, x, r, G1.ah, r1, e3, fun w H3 sm r3 => q w H3 (G1.same sm) (x1.trans (Ext.same sm)) r3⟩
variable {a b c : Expr} {fa fb fc : Sem1 D} {pos : Pos}
theorem ev_bin {op : Operator} {g : D → D → Option D} (ho : OpR X (binaryOp op) (rD X.K g)) (ha : EvE X W a fa) (hb : EvE X W b fb) : EvE X W (.BinOp a op b pos) (fBin g fa fb) :=
  (pe_op ho ha hb).imp fun _ _ _ => tE_bin
theorem ev_un {op : UnaryOp} {g : D → Option D} (ho : UnR X (unaryOp op) (rU X.K g)) (ha : EvE X W a fa) : EvE X W (.UnaryOp op a pos) (fUn g fa) :=
  (pe_un ho ha).imp fun _ _ _ => tE_un
theorem ev_cmp {op : CmpOp} {g : D → D → Option D} (ho : OpR X (compareOp op) (rD X.K g)) (ha : EvE X W a fa) (hb : EvE X W b fb) (hm : behindInMarks op b = false) : EvE X W (.Compare a [op] [b] pos) (fBin g fa fb) :=
  (pe_cmpR ho ha hb hm).imp fun _ _ _ => tE_bin
theorem ev_ix {g : D → D → Option D} (ho : IxR X (rD X.K g)) (ha : EvE X W a fa) (hb : EvE X W b fb) (hs : PlainIx b) : EvE X W (.Subscript a b pos) (fBin g fa fb) :=
  (pe_ix ho ha hb hs).imp fun _ _ _ => tE_bin
/-- a value's truth, of a bool -/
def asB : D → Option Bool
  | .bool b => some b
  | _ => none
def fTest (fa : Sem1 D) : Sem1 Bool := fun ρ s => (fa ρ s).bind fun x s1 => .lift (asB x) s1
theorem rp_bool {K : Fg} {H : Hp} {A : Addr → Prop} {v : V} {b : Bool} (h : Rp K H A v (.bool b)) : v = .bl b := by cases h; rfl
theorem rp_int {K : Fg} {H : Hp} {A : Addr → Prop} {v : V} {b : Int} (h : Rp K H A v (.int b)) : v = .int b := by cases h; rfl
theorem rp_str {K : Fg} {H : Hp} {A : Addr → Prop} {v : V} {b : Str} (h : Rp K H A v (.str b)) : v = .str b := by cases h; rfl
theorem rp_none {K : Fg} {H : Hp} {A : Addr → Prop} {v : V} (h : Rp K H A v .none) : v = .non := by cases h; rfl
theorem asB_some {d : D} {b : Bool} (h : asB d = some b) : d = .bool b := by
  cases d with
  | bool c => cases h; rfl
  | _ => cases h
theorem tT_test {K : Fg} {mg : Str → Option Value} {σ : St} {H : Hp} {Q : Bool → Hp → Prop} (h : tT K mg (fTest fa) W σ H Q) : tE K mg fa W σ H fun x H' => ∃ k, x = .bl k ∧ Q k H' := by
  obtain ⟨wd, A0, A, H0, ρ, s, G, q⟩ := h
  unfold fTest at q
  refine tE_bind G (fun x s1 v H1 e1 G1 x1 r1 => ?_) (fun c s1 H1 e1 G1 x1 => by rw [e1] at q; exact q H1 G1 x1) (fun e1 => by rw [e1] at q; exact q)
  rw [e1, Res.bind_ok] at q
  cases e3 : asB x with
  | none => rw [e3] at q; exact q.elim
  | some b =>
    rw [e3] at q
    rw [asB_some e3] at r1
    exact ⟨b, rp_bool r1, q H1 G1 x1⟩
/-- an expression whose value is a bool, as a test (call, name, constant ..) -/
theorem et_val (h : EvE X W a fa) (he : ∀ whole, isTrue a X.env whole = (do let v ← whole; standAt a.pos; holding [v] (truthy v)) := by intro _; rfl) : EvT X W a (fTest fa) :=
  (pt_val h he).imp fun _ _ _ => tT_test
theorem et_cmp {op : CmpOp} {g : D → D → Option D} (ho : OpR X (compareOp op) (rD X.K g)) (ha : EvE X W a fa) (hb : EvE X W b fb) (hm : behindInMarks op b = false) : EvT X W (.Compare a [op] [b] pos) (fTest (fBin g fa fb)) := by
  refine (pt_cmpR ho ha hb hm).imp fun σ H Q q => ?_
  exact tE_bin (tT_test q)
end
end Cw

namespace Cw
open PySem PySem.Spec PyProof.Rows L2
section
variable {X : Cx} {W : WX} {a b c : Expr} {rest : List Expr} {fa fb fc : Sem1 D} {ft fu : Sem1 Bool} {pos : Pos}
/-! ### a < b < c -/
def fChain (g g' : D → D → Option D) (fa fb fc : Sem1 D) : Sem1 D := fun ρ s => (fa ρ s).bind fun x s1 => (fb ρ s1).bind fun y s2 => (Res.lift ((g x y).bind asB) s2).bind fun k s3 =>
  if k = true then (fc ρ s3).bind fun z s4 => .lift (g' y z) s4 else .ok (.bool false) s3
theorem tE_chain {K : Fg} {mg : Str → Option Value} {g g' : D → D → Option D} {σ : St} {H : Hp} {Q : VK} (h : tE K mg (fChain g g' fa fb fc) W σ H Q) : tChain (rD K g) (rD K g') (tE K mg fa W) (tE K mg fb W) (tE K mg fc W) σ H Q := by
  obtain ⟨wd, A0, A, H0, ρ, s, G, q⟩ := h
  unfold fChain at q
  refine tE_bind G (fun x s1 v H1 e1 G1 x1 r1 => ?_) (fun c s1 H1 e1 G1 x1 => by rw [e1] at q; exact q H1 G1 x1) (fun e1 => by rw [e1] at q; exact q)
  rw [e1, Res.bind_ok] at q
  refine tE_bind G1 (fun y s2 u H2 e2 G2 x2 r2 => ?_) (fun c s2 H2 e2 G2 x2 => by rw [e2] at q; exact q H2 G2 (x1.trans x2)) (fun e2 => by rw [e2] at q; exact q)
  rw [e2, Res.bind_ok] at q
  cases e3 : g x y with
  | none => rw [e3] at q; exact q.elim
  | some r =>
    rw [e3] at q
    cases e4 : asB r with
    | none => rw [Option.bind_some, e4] at q; exact q.elim
    | some k =>
      rw [Option.bind_some, e4] at q
      have q : ResE K mg wd A0 A H0 ρ σ H W Q (if k = true then (fc ρ s2).bind fun z s4 => Res.lift (g' y z) s4 else .ok (.bool false) s2) := q
      refine ⟨A, x, y, r, G2.ah, G1.rp r1 x2, r2, e3, fun w H3 sm r3 => ?_⟩
      rw [asB_some e4] at r3
      have G3 := G2.same sm
      have x3 : Ext wd.df H H3 := x1.trans (x2.trans (Ext.same sm))
      refine ⟨k, rp_bool r3, ?_⟩
      cases k with
      | false =>
        rw [if_neg (by decide)] at q ⊢
        exact q _ H3 G3 x3 (.bl false)
      | true =>
        rw [if_pos rfl] at q ⊢
        refine tE_bind G3 (fun z s4 w' H4 e5 G4 x4 r5 => ?_) (fun c s2 H2 e2 G2 x2 => by rw [e2] at q; exact q H2 G2 (x3.trans x2)) (fun e2 => by rw [e2] at q; exact q)
        rw [e5, Res.bind_ok] at q
        cases e6 : g' y z with
        | none => rw [e6] at q; exact q.elim
        | some r' =>
          rw [e6] at q
          exact ⟨A, y, z, r', G4.ah, G3.rp (G2.rp r2 (Ext.same sm)) x4, r5, e6, fun w H5 sm5 r7 => q w H5 (G4.same sm5) (x3.trans (x4.trans (Ext.same sm5))) r7⟩
theorem ev_chain {op op' : CmpOp} {g g' : D → D → Option D} (ho : OpR X (compareOp op) (rD X.K g)) (ho' : OpR X (compareOp op') (rD X.K g')) (ha : EvE X W a fa) (hb : EvE X W b fb) (hc : EvE X W c fc)
    (hm : lastMarks [op, op'] [b, c] = false := by with_unfolding_all rfl) : EvE X W (.Compare a [op, op'] [b, c] pos) (fChain g g' fa fb fc) := (pe_chain ho ho' ha hb hc hm).imp fun _ _ _ => tE_chain
theorem et_chain {op op' : CmpOp} {g g' : D → D → Option D} (ho : OpR X (compareOp op) (rD X.K g)) (ho' : OpR X (compareOp op') (rD X.K g')) (ha : EvE X W a fa) (hb : EvE X W b fb) (hc : EvE X W c fc)
    (hm : lastMarks [op, op'] [b, c] = false := by with_unfolding_all rfl) : EvT X W (.Compare a [op, op'] [b, c] pos) (fTest (fChain g g' fa fb fc)) := (pt_chain ho ho' ha hb hc hm).imp fun _ _ _ q => tE_chain (tT_test q)

/-! ### and, or, not, as tests -/
def fNotT (ft : Sem1 Bool) : Sem1 Bool := fun ρ s => (ft ρ s).bind fun b s1 => .ok (!b) s1
def fAndT (ft fu : Sem1 Bool) : Sem1 Bool := fun ρ s => (ft ρ s).bind fun b s1 => if b = true then fu ρ s1 else .ok false s1
def fOrT (ft fu : Sem1 Bool) : Sem1 Bool := fun ρ s => (ft ρ s).bind fun b s1 => if b = true then .ok true s1 else fu ρ s1
theorem et_not (h : EvT X W a ft) : EvT X W (.UnaryOp .Not a pos) (fNotT ft) := by
  refine (pt_not h).imp fun σ H Q q => ?_
  obtain ⟨wd, A0, A, H0, ρ, s, G, q⟩ := q
  unfold fNotT at q
  refine tT_bind G (fun x s1 H1 e1 G1 x1 => ?_) (fun c s1 H1 e1 G1 x1 => by rw [e1] at q; exact q H1 G1 x1) (fun e1 => by rw [e1] at q; exact q)
  rw [e1, Res.bind_ok] at q
  exact q H1 G1 x1
abbrev EvW (X : Cx) (W : WX) (e : Expr) (f : Sem1 Bool) : Prop := PW X e (tT X.K X.mg f W)
theorem et_w {e : Expr} (h : EvW X W e ft) : EvT X W e ft := PW.pt h
theorem ew_and1 (h : EvT X W a ft) : EvW X W (.BoolOp .And [a] pos) ft := pw_and1 h
theorem ew_or1 (h : EvT X W a ft) : EvW X W (.BoolOp .Or [a] pos) ft := pw_or1 h
theorem ew_and (ha : EvT X W a ft) (hb : EvW X W (.BoolOp .And (b :: rest) pos) fu) : EvW X W (.BoolOp .And (a :: b :: rest) pos) (fAndT ft fu) := by
  refine (pw_and ha hb).imp fun σ H Q q => ?_
  obtain ⟨wd, A0, A, H0, ρ, s, G, q⟩ := q
  unfold fAndT at q
  refine tT_bind G (fun k s1 H1 e1 G1 x1 => ?_) (fun c s1 H1 e1 G1 x1 => by rw [e1] at q; exact q H1 G1 x1) (fun e1 => by rw [e1] at q; exact q)
  rw [e1, Res.bind_ok] at q
  cases k with
  | false => rw [if_neg (by decide)] at q ⊢; exact q H1 G1 x1
  | true =>
    rw [if_pos rfl] at q ⊢
    exact tT_bind G1 (fun k s2 H2 e2 G2 x2 => by rw [e2] at q; exact q H2 G2 (x1.trans x2)) (fun c s1 H1 e1 G1 x2 => by rw [e1] at q; exact q H1 G1 (x1.trans x2)) (fun e1 => by rw [e1] at q; exact q)
theorem ew_or (ha : EvT X W a ft) (hb : EvW X W (.BoolOp .Or (b :: rest) pos) fu) : EvW X W (.BoolOp .Or (a :: b :: rest) pos) (fOrT ft fu) := by
  refine (pw_or ha hb).imp fun σ H Q q => ?_
  obtain ⟨wd, A0, A, H0, ρ, s, G, q⟩ := q
  unfold fOrT at q
  refine tT_bind G (fun k s1 H1 e1 G1 x1 => ?_) (fun c s1 H1 e1 G1 x1 => by rw [e1] at q; exact q H1 G1 x1) (fun e1 => by rw [e1] at q; exact q)
  rw [e1, Res.bind_ok] at q
  cases k with
  | true => rw [if_pos rfl] at q ⊢; exact q H1 G1 x1
  | false =>
    rw [if_neg (by decide)] at q ⊢
    exact tT_bind G1 (fun k s2 H2 e2 G2 x2 => by rw [e2] at q; exact q H2 G2 (x1.trans x2)) (fun c s1 H1 e1 G1 x2 => by rw [e1] at q; exact q H1 G1 (x1.trans x2)) (fun e1 => by rw [e1] at q; exact q)
/-! ### .. as values -/
def fAndV (fa fb : Sem1 D) : Sem1 D := fun ρ s => (fa ρ s).bind fun x s1 => (Res.lift (asB x) s1).bind fun b s1 => if b = true then fb ρ s1 else .ok (.bool false) s1
def fOrV (fa fb : Sem1 D) : Sem1 D := fun ρ s => (fa ρ s).bind fun x s1 => (Res.lift (asB x) s1).bind fun b s1 => if b = true then .ok (.bool true) s1 else fb ρ s1
def fNotV (fa : Sem1 D) : Sem1 D := fun ρ s => (fa ρ s).bind fun x s1 => (Res.lift (asB x) s1).bind fun b s1 => .ok (.bool !b) s1
theorem ev_one {op} (h : EvE X W a fa) : EvE X W (.BoolOp op [a] pos) fa := pe_one h
theorem ev_and (ha : EvE X W a fa) (hb : EvE X W (.BoolOp .And (b :: rest) pos) fb) : EvE X W (.BoolOp .And (a :: b :: rest) pos) (fAndV fa fb) := by
  refine (pe_and ha hb).imp fun σ H Q q => ?_
  obtain ⟨wd, A0, A, H0, ρ, s, G, q⟩ := q
  unfold fAndV at q
  refine tE_bind G (fun x s1 v H1 e1 G1 x1 r1 => ?_) (fun c s1 H1 e1 G1 x1 => by rw [e1] at q; exact q H1 G1 x1) (fun e1 => by rw [e1] at q; exact q)
  rw [e1, Res.bind_ok] at q
  cases e2 : asB x with
  | none => rw [e2] at q; exact q.elim
  | some k =>
    rw [e2] at q
    rw [asB_some e2] at r1
    refine ⟨k, rp_bool r1, ?_⟩
    have q : ResE X.K X.mg wd A0 A H0 ρ σ H W Q (if k = true then fb ρ s1 else .ok (.bool false) s1) := q
    cases k with
    | false => rw [if_neg (by decide)] at q ⊢; exact q _ H1 G1 x1 (.bl false)
    | true =>
      rw [if_pos rfl] at q ⊢
      exact tE_bind G1 (fun k s2 v H2 e2 G2 x2 r2 => by rw [e2] at q; exact q v H2 G2 (x1.trans x2) r2) (fun c s1 H1 e1 G1 x2 => by rw [e1] at q; exact q H1 G1 (x1.trans x2)) (fun e1 => by rw [e1] at q; exact q)
theorem ev_or (ha : EvE X W a fa) (hb : EvE X W (.BoolOp .Or (b :: rest) pos) fb) : EvE X W (.BoolOp .Or (a :: b :: rest) pos) (fOrV fa fb) := by
  refine (pe_or ha hb).imp fun σ H Q q => ?_
  obtain ⟨wd, A0, A, H0, ρ, s, G, q⟩ := q
  unfold fOrV at q
  refine tE_bind G (fun x s1 v H1 e1 G1 x1 r1 => ?_) (fun c s1 H1 e1 G1 x1 => by rw [e1] at q; exact q H1 G1 x1) (fun e1 => by rw [e1] at q; exact q)
  rw [e1, Res.bind_ok] at q
  cases e2 : asB x with
  | none => rw [e2] at q; exact q.elim
  | some k =>
    rw [e2] at q
    rw [asB_some e2] at r1
    refine ⟨k, rp_bool r1, ?_⟩
    have q : ResE X.K X.mg wd A0 A H0 ρ σ H W Q (if k = true then .ok (.bool true) s1 else fb ρ s1) := q
    cases k with
    | true => rw [if_pos rfl] at q ⊢; exact q _ H1 G1 x1 (.bl true)
    | false =>
      rw [if_neg (by decide)] at q ⊢
      exact tE_bind G1 (fun k s2 v H2 e2 G2 x2 r2 => by rw [e2] at q; exact q v H2 G2 (x1.trans x2) r2) (fun c s1 H1 e1 G1 x2 => by rw [e1] at q; exact q H1 G1 (x1.trans x2)) (fun e1 => by rw [e1] at q; exact q)
theorem ev_not (ha : EvE X W a fa) : EvE X W (.UnaryOp .Not a pos) (fNotV fa) := by
  refine (pe_not ha).imp fun σ H Q q => ?_
  obtain ⟨wd, A0, A, H0, ρ, s, G, q⟩ := q
  unfold fNotV at q
  refine tE_bind G (fun x s1 v H1 e1 G1 x1 r1 => ?_) (fun c s1 H1 e1 G1 x1 => by rw [e1] at q; exact q H1 G1 x1) (fun e1 => by rw [e1] at q; exact q)
  rw [e1, Res.bind_ok] at q
  cases e2 : asB x with
  | none => rw [e2] at q; exact q.elim
  | some k =>
    rw [e2] at q
    rw [asB_some e2] at r1
    exact ⟨k, rp_bool r1, q _ H1 G1 x1 (.bl !k)⟩
/-! ### a if t else b -/
def fIf (ft : Sem1 Bool) (fa fb : Sem1 D) : Sem1 D := fun ρ s => (ft ρ s).bind fun b s1 => if b = true then fa ρ s1 else fb ρ s1
theorem ev_if (hc : EvT X W c ft) (ha : EvE X W a fa) (hb : EvE X W b fb) : EvE X W (.IfExp c a b pos) (fIf ft fa fb) := by
  refine (pe_ifExp hc ha hb).imp fun σ H Q q => ?_
  obtain ⟨wd, A0, A, H0, ρ, s, G, q⟩ := q
  unfold fIf at q
  refine tT_bind G (fun k s1 H1 e1 G1 x1 => ?_) (fun c s1 H1 e1 G1 x1 => by rw [e1] at q; exact q H1 G1 x1) (fun e1 => by rw [e1] at q; exact q)
  rw [e1, Res.bind_ok] at q
  cases k with
  | true =>
    rw [if_pos rfl] at q ⊢
    exact tE_bind G1 (fun k s2 v H2 e2 G2 x2 r2 => by rw [e2] at q; exact q v H2 G2 (x1.trans x2) r2) (fun c s1 H1 e1 G1 x2 => by rw [e1] at q; exact q H1 G1 (x1.trans x2)) (fun e1 => by rw [e1] at q; exact q)
  | false =>
    rw [if_neg (by decide)] at q ⊢
    exact tE_bind G1 (fun k s2 v H2 e2 G2 x2 r2 => by rw [e2] at q; exact q v H2 G2 (x1.trans x2) r2) (fun c s1 H1 e1 G1 x2 => by rw [e1] at q; exact q H1 G1 (x1.trans x2)) (fun e1 => by rw [e1] at q; exact q)

/-! ### lists of arguments -/
variable {e : Expr} {es : List Expr} {fl : Sem1 (List D)} {fs : Sem1 (List SV)}
section
variable (K : Fg) (mg : Str → Option Value)
def ResL (wd : Wd) (A0 A : Addr → Prop) (H0 : Hp) (ρ : En) (σ : St) (H : Hp) (W : WX) (Q : List V → Hp → Prop) : Res (List D) → Prop
  | .ok ds s' => ∀ vs H', Good K mg wd A0 A H0 ρ s' σ H' → Ext wd.df H H' → RpAll K H' A vs ds → Q vs H'
  | .exc c s' => ∀ H', Good K mg wd A0 A H0 ρ s' σ H' → Ext wd.df H H' → W (xv mg c) none σ H'
  | .bad => False
def tL (f : Sem1 (List D)) (W : WX) : TA := fun σ H Q => ∃ wd A0 A H0 ρ s, Good K mg wd A0 A H0 ρ s σ H ∧ ResL K mg wd A0 A H0 ρ σ H W Q (f ρ s)
end
abbrev EvL (X : Cx) (W : WX) (es : List Expr) (f : Sem1 (List D)) : Prop := PA X es (tL X.K X.mg f W)
theorem tL_bind {K : Fg} {mg : Str → Option Value} {wd : Wd} {A0 A : Addr → Prop} {H0 H : Hp} {ρ : En} {s : Dk} {σ : St} {f : Sem1 (List D)} {Q : List V → Hp → Prop} (G : Good K mg wd A0 A H0 ρ s σ H)
    (hok : ∀ d s' v H', f ρ s = .ok d s' → Good K mg wd A0 A H0 ρ s' σ H' → Ext wd.df H H' → RpAll K H' A v d → Q v H')
    (hexc : ∀ c s' H', f ρ s = .exc c s' → Good K mg wd A0 A H0 ρ s' σ H' → Ext wd.df H H' → W (xv mg c) none σ H') (hbad : f ρ s = .bad → False) : tL K mg f W σ H Q := by
  refine ⟨wd, A0, A, H0, ρ, s, G, ?_⟩
  cases e : f ρ s with
  | ok d s' => exact fun v H' => hok d s' v H' e
  | exc c s' => exact fun H' => hexc c s' H' e
  | bad => exact hbad e
def fNil {α : Type} : Sem1 (List α) := fun _ s => .ok [] s
def fCons (fa : Sem1 D) (fl : Sem1 (List D)) : Sem1 (List D) := fun ρ s => (fa ρ s).bind fun x s1 => (fl ρ s1).bind fun xs s2 => .ok (x :: xs) s2
theorem el_nil : EvL X W [] fNil := pa_nil.imp fun σ H Q ⟨wd, A0, A, H0, ρ, s, G, q⟩ => q [] H G Ext.refl .nil
theorem el_cons (ha : EvE X W e fa) (hr : EvL X W es fl) (hs : starEach (e :: es) X.env = (false, eval e X.env) :: starEach es X.env := by rfl) : EvL X W (e :: es) (fCons fa fl) := by
  refine (pa_cons ha hr hs).imp fun σ H Q q => ?_
  obtain ⟨wd, A0, A, H0, ρ, s, G, q⟩ := q
  unfold fCons at q
  refine tE_bind G (fun x s1 v H1 e1 G1 x1 r1 => ?_) (fun c s1 H1 e1 G1 x1 => by rw [e1] at q; exact q H1 G1 x1) (fun e1 => by rw [e1] at q; exact q)
  rw [e1, Res.bind_ok] at q
  refine tL_bind G1 (fun y s2 u H2 e2 G2 x2 r2 => ?_) (fun c s2 H2 e2 G2 x2 => by rw [e2] at q; exact q H2 G2 (x1.trans x2)) (fun e2 => by rw [e2] at q; exact q)
  rw [e2, Res.bind_ok] at q
  exact q _ H2 G2 (x1.trans x2) (.cons (G1.rp r1 x2) r2)
/-! .. of any slots' values, for a def of the text -/
def fConsA (fa : Sem1 D) (fl : Sem1 (List SV)) : Sem1 (List SV) := fun ρ s => (fa ρ s).bind fun x s1 => (fl ρ s1).bind fun xs s2 => .ok (.va x :: xs) s2
def fConsV (i : Nat) (fl : Sem1 (List SV)) : Sem1 (List SV) := fun ρ s => match ρ[i]? with
  | some (.dk k) => (fl ρ s).bind fun xs s2 => .ok (.dk k :: xs) s2
  | some (.fv n) => (fl ρ s).bind fun xs s2 => .ok (.fv n :: xs) s2
  | some (.sc ns) => (fl ρ s).bind fun xs s2 => .ok (.sc ns :: xs) s2
  | _ => .bad
theorem ea_nil : EvA X W [] fNil := pa_nil.imp fun σ H Q ⟨wd, A0, A, H0, ρ, s, G, q⟩ => q [] H G Ext.refl .nil
theorem ArgAll.ext {K : Fg} {mg : Str → Option Value} {wd : Wd} {A : Addr → Prop} {H H' : Hp} (e : Ext wd.df H H') (hA : ∀ a, wd.df a → A a) : ∀ {vs : List V} {svs : List SV}, ArgAll K mg wd A H svs vs → ArgAll K mg wd A H' svs vs
  | _, _, .nil => .nil
  | _, sv :: _, .cons h r => .cons (by
      cases sv with
      | va d => exact Rp.ext e hA h
      | dk => exact h
      | fv n => exact h
      | sc ns => obtain ⟨a, q1, q2⟩ := h; exact ⟨a, q1, q2.ext e⟩
      | un => exact h
      | ow _ => exact h) (ArgAll.ext e hA r)
theorem ea_cons (ha : EvE X W e fa) (hr : EvA X W es fs) (hs : starEach (e :: es) X.env = (false, eval e X.env) :: starEach es X.env := by rfl) : EvA X W (e :: es) (fConsA fa fs) := by
  refine (pa_cons ha hr hs).imp fun σ H Q q => ?_
  obtain ⟨wd, A0, A, H0, ρ, s, G, q⟩ := q
  unfold fConsA at q
  refine tE_bind G (fun x s1 v H1 e1 G1 x1 r1 => ?_) (fun c s1 H1 e1 G1 x1 => by rw [e1] at q; exact q H1 G1 x1) (fun e1 => by rw [e1] at q; exact q)
  rw [e1, Res.bind_ok] at q
  refine tA_bind G1 (fun y s2 u H2 e2 G2 x2 r2 => ?_) (fun c s2 H2 e2 G2 x2 => by rw [e2] at q; exact q H2 G2 (x1.trans x2)) (fun e2 => by rw [e2] at q; exact q)
  rw [e2, Res.bind_ok] at q
  exact q _ H2 G2 (x1.trans x2) (.cons (G1.rp r1 x2) r2)
theorem ea_var {i : Nat} {x : Str} {p : Pos} (h : PE X (.Name x p) (tVar i)) (hr : EvA X W es fs) (hs : starEach (.Name x p :: es) X.env = (false, eval (.Name x p) X.env) :: starEach es X.env := by rfl) : EvA X W (.Name x p :: es) (fConsV i fs) := by
  refine (pa_cons h hr hs).imp fun σ H Q q => ?_
  obtain ⟨wd, A0, A, H0, ρ, s, G, q⟩ := q
  unfold fConsV at q
  cases e : ρ[i]? with
  | none => rw [e] at q; exact q.elim
  | some sv =>
    rw [e] at q
    cases sv with
    | dk k =>
      obtain ⟨hk, e1⟩ : wd.kd = k ∧ σ[i]? = some (some wd.dv) := G.slot i _ e
      refine ⟨_, e1, ?_⟩
      refine tA_bind G (fun y s2 u H2 e2 G2 x2 r2 => ?_) (fun c s2 H2 e2 G2 x2 => by simp only [e2] at q; exact q H2 G2 x2) (fun e2 => by simp only [e2] at q; exact q)
      simp only [e2, Res.bind_ok] at q
      exact q _ H2 G2 x2 (.cons ⟨hk, rfl⟩ r2)
    | fv n =>
      obtain ⟨f, e1, e2⟩ : ∃ f, σ[i]? = some (some (.ref f)) ∧ X.mg n = some (.ref f) := G.slot i _ e
      refine ⟨_, e1, ?_⟩
      refine tA_bind G (fun y s2 u H2 e3 G2 x2 r2 => ?_) (fun c s2 H2 e2 G2 x2 => by simp only [e2] at q; exact q H2 G2 x2) (fun e2 => by simp only [e2] at q; exact q)
      simp only [e3, Res.bind_ok] at q
      exact q _ H2 G2 x2 (.cons ⟨f, rfl, e2⟩ r2)
    | sc ns =>
      obtain ⟨a, e1, e2⟩ : ∃ a, σ[i]? = some (some (.ref a)) ∧ ScOk X.K H a ns := G.slot i _ e
      refine ⟨_, e1, ?_⟩
      refine tA_bind G (fun y s2 u H2 e3 G2 x2 r2 => ?_) (fun c s2 H2 e2 G2 x2 => by simp only [e2] at q; exact q H2 G2 x2) (fun e2 => by simp only [e2] at q; exact q)
      simp only [e3, Res.bind_ok] at q
      exact q _ H2 G2 x2 (.cons ⟨a, rfl, e2.ext x2⟩ r2)
    | un => exact q.elim
    | ow _ => exact q.elim
    | va _ => exact q.elim

/-! ### displays -/
def lineOk (n : Nat) : Bool := decide (n ≤ 1000000)
theorem lineOk_le {n : Nat} (h : lineOk n = true) : n ≤ sizeLine := Nat.le_trans (of_decide_eq_true h) (by rw [sizeLine_eq]; decide)
theorem lineOk_lt {n : Nat} (h : lineOk n = true) : n < sizeLine := Nat.lt_of_le_of_lt (of_decide_eq_true h) (by rw [sizeLine_eq]; decide)
def fTup (fl : Sem1 (List D)) : Sem1 D := fun ρ s => (fl ρ s).bind fun ds s1 => if lineOk ds.length = true then .ok (.tuple ds) s1 else .bad
theorem new_same {H : Hp} {p : Addr} {o : HO} (h : H p = none) : Same H (upd H p o) := fun b u e => by
  rw [upd_ne (ne_of_none e h)]
  exact e
theorem RpAll.same {K : Fg} {H H' : Hp} {A : Addr → Prop} {vs : List V} {ds : List D} (r : RpAll K H A vs ds) (e : Same H H') : RpAll K H' A vs ds := r.ext (B := fun _ => False) (Ext.same e) fun _ z => z.elim
theorem Rp.same {K : Fg} {H H' : Hp} {A : Addr → Prop} {v : V} {d : D} (r : Rp K H A v d) (e : Same H H') : Rp K H' A v d := r.ext (B := fun _ => False) (Ext.same e) fun _ z => z.elim
theorem ev_tup {k : Nat} (h : EvL X W es fl) : EvE X W (.Tuple es k pos) (fTup fl) := by
  refine (pe_tup h).imp fun σ H Q q => ?_
  obtain ⟨wd, A0, A, H0, ρ, s, G, q⟩ := q
  unfold fTup at q
  refine tL_bind G (fun y s2 u H2 e2 G2 x2 r2 => ?_) (fun c s2 H2 e2 G2 x2 => by rw [e2] at q; exact q H2 G2 x2) (fun e2 => by rw [e2] at q; exact q)
  rw [e2, Res.bind_ok] at q
  by_cases hl : lineOk y.length = true
  · rw [if_pos hl] at q
    refine ⟨by rw [r2.len]; exact lineOk_le hl, fun p hp => ?_⟩
    have sm : Same H2 (upd H2 p (.tup u)) := new_same hp
    exact q _ _ (G2.same sm) (x2.trans (Ext.same sm)) (.tup (.inl (.inl upd_same)) (r2.same sm))
  · rw [if_neg hl] at q; exact q.elim

/-! ### fresh lists -/
section
variable (K : Fg) (mg : Str → Option Value)
/-- a new list of ds -/
def ResO (wd : Wd) (A0 A : Addr → Prop) (H0 : Hp) (ρ : En) (σ : St) (H : Hp) (W : WX) (Q : VK) : Res (List D) → Prop
  | .ok ds s' => ∀ p xs H', Good K mg wd A0 A H0 ρ s' σ H' → Ext wd.df H H' → H p = none → H' p = some (.lst xs) → RpAll K H' (fun a => A a ∨ a = p) xs ds → Q (.ref p) H'
  | .exc c s' => ∀ H', Good K mg wd A0 A H0 ρ s' σ H' → Ext wd.df H H' → W (xv mg c) none σ H'
  | .bad => False
def tO (f : Sem1 (List D)) (W : WX) : TE := fun σ H Q => ∃ wd A0 A H0 ρ s, Good K mg wd A0 A H0 ρ s σ H ∧ ResO K mg wd A0 A H0 ρ σ H W Q (f ρ s)
end
abbrev EvO (X : Cx) (W : WX) (e : Expr) (f : Sem1 (List D)) : Prop := PE X e (tO X.K X.mg f W)
def fLst (fl : Sem1 (List D)) : Sem1 D := fun ρ s => (fl ρ s).bind fun ds s1 => .ok (.list ds) s1
/-- a fresh list as a value among others -/
theorem ev_o {fl : Sem1 (List D)} (h : EvO X W e fl) : EvE X W e (fLst fl) := by
  refine h.imp fun σ H Q q => ?_
  obtain ⟨wd, A0, A, H0, ρ, s, G, q⟩ := q
  refine ⟨wd, A0, A, H0, ρ, s, G, ?_⟩
  unfold fLst at q
  cases e1 : fl ρ s with
  | ok ds s' =>
    rw [e1] at q
    intro p xs H' G' e' np hp r
    exact q _ H' G' e' (.lst hp (fun z => by
      obtain ⟨o, z⟩ := G.ah _ z
      rw [np] at z; cases z) (r.av fun a z => .inl (.inl z)))
  | exc c s' => rw [e1] at q; exact q
  | bad => rw [e1] at q; exact q
def fLine (fl : Sem1 (List D)) : Sem1 (List D) := fun ρ s => (fl ρ s).bind fun ds s1 => if lineOk ds.length = true then .ok ds s1 else .bad
theorem eo_lst (h : EvL X W es fl) : EvO X W (.List es pos) (fLine fl) := by
  refine (pe_lst h).imp fun σ H Q q => ?_
  obtain ⟨wd, A0, A, H0, ρ, s, G, q⟩ := q
  unfold fLine at q
  refine tL_bind G (fun y s2 u H2 e2 G2 x2 r2 => ?_) (fun c s2 H2 e2 G2 x2 => by rw [e2] at q; exact q H2 G2 x2) (fun e2 => by rw [e2] at q; exact q)
  rw [e2, Res.bind_ok] at q
  by_cases hl : lineOk y.length = true
  · rw [if_pos hl] at q
    refine ⟨by rw [r2.len]; exact lineOk_le hl, fun p hp => ?_⟩
    have sm : Same H2 (upd H2 p (.lst u)) := new_same hp
    refine q p u _ (G2.same sm) (x2.trans (Ext.same sm)) ?_ upd_same ((r2.av fun a z => z.elim .inl fun z => .inr (by rw [z]; exact hp)).same sm)
    cases z : H p with
    | none => rfl
    | some o =>
      obtain ⟨o', z'⟩ := x2.there p o z
      rw [hp] at z'; cases z'
  · rw [if_neg hl] at q; exact q.elim
end
end Cw

namespace Cw
open PySem PySem.Spec PyProof.Rows L2

/-! ### what statements compute -/
inductive RS where
  | nx (ρ : En) (s : Dk) | bk (ρ : En) (s : Dk) | ct (ρ : En) (s : Dk) | rt (d : D) (s : Dk) | exc (c : Str) (ρ : En) (s : Dk) | bad
abbrev SemS := En → Dk → RS
def Res.bindS {α : Type} (r : Res α) (ρ : En) (k : α → Dk → RS) : RS :=
  match r with
  | .ok a s => k a s
  | .exc c s => .exc c ρ s
  | .bad => .bad
theorem Res.bindS_ok {α : Type} (a : α) (s : Dk) (ρ : En) (k : α → Dk → RS) : (Res.ok a s).bindS ρ k = k a s := rfl
/-- what a piece of code may do between two states -/
structure Fr (A : Addr → Prop) (H : Hp) (A' : Addr → Prop) (H' : Hp) : Prop where
  ext : Ext A H H'
  av : ∀ a, A' a → A a ∨ H a = none
theorem Fr.refl {A : Addr → Prop} {H : Hp} : Fr A H A H := ⟨Ext.refl, fun _ h => .inl h⟩
theorem Fr.trans {A A1 A2 : Addr → Prop} {H H1 H2 : Hp} (a : Fr A H A1 H1) (b : Fr A1 H1 A2 H2) : Fr A H A2 H2 where
  ext := ⟨fun c o h n => b.ext.keep c o (a.ext.keep c o h n) fun z => (a.av c z).elim n fun q => (by rw [h] at q; cases q),
    fun c xs h => b.ext.tups c xs (a.ext.tups c xs h), fun c o u h => b.ext.frzs c o u (a.ext.frzs c o u h), fun c o h => let ⟨o', h'⟩ := a.ext.there c o h; b.ext.there c o' h'⟩
  av := fun c h => (b.av c h).elim (a.av c) fun q => .inr (by
    cases z : H c with
    | none => rfl
    | some o =>
      obtain ⟨o', z'⟩ := a.ext.there c o z
      rw [q] at z'; cases z')
theorem Fr.of_ext {A B : Addr → Prop} {H H' : Hp} (e : Ext B H H') (h : ∀ a, B a → A a) : Fr A H A H' := ⟨e.mono h, fun _ h => .inl h⟩
section
variable (K : Fg) (mg : Str → Option Value)
def RSok (W : WX) (wd : Wd) (A0 : Addr → Prop) (H0 : Hp) (A : Addr → Prop) (H : Hp) (D : Ends) : RS → Prop
  | .nx ρ s => ∀ A' σ' H', Good K mg wd A0 A' H0 ρ s σ' H' → Fr A H A' H' → D.nx σ' H'
  | .bk ρ s => ∀ A' σ' H', Good K mg wd A0 A' H0 ρ s σ' H' → Fr A H A' H' → D.bk σ' H'
  | .ct ρ s => ∀ A' σ' H', Good K mg wd A0 A' H0 ρ s σ' H' → Fr A H A' H' → D.ct σ' H'
  | .rt d s => ∀ v H', wd.rep s H' → Ext wd.df H0 H' → Rp K H' A0 v d → D.rt v H'
  | .exc c ρ s => ∀ A' σ' H', Good K mg wd A0 A' H0 ρ s σ' H' → Fr A H A' H' → W (xv mg c) none σ' H'
  | .bad => False
def tS (f : SemS) (W : WX) : TS := fun D σ H => ∃ wd A0 A H0 ρ s, Good K mg wd A0 A H0 ρ s σ H ∧ RSok K mg W wd A0 H0 A H D (f ρ s)
end
abbrev EvS (X : Cx) (W : WX) (st : Stmt) (f : SemS) : Prop := PS X st (tS X.K X.mg f W)
abbrev EvB (X : Cx) (W : WX) (st : List Stmt) (f : SemS) : Prop := PSs X st (tS X.K X.mg f W)
section
variable {K : Fg} {mg : Str → Option Value} {wd : Wd} {A0 A A1 : Addr → Prop} {H0 H H1 : Hp} {W : WX} {D : Ends}
theorem RSok.from {r : RS} (h : RSok K mg W wd A0 H0 A H D r) (f : Fr A H A1 H1) : RSok K mg W wd A0 H0 A1 H1 D r := by
  cases r with
  | nx ρ s => exact fun A' σ' H' G f' => h A' σ' H' G (f.trans f')
  | bk ρ s => exact fun A' σ' H' G f' => h A' σ' H' G (f.trans f')
  | ct ρ s => exact fun A' σ' H' G f' => h A' σ' H' G (f.trans f')
  | rt d s => exact h
  | exc c ρ s => exact fun A' σ' H' G f' => h A' σ' H' G (f.trans f')
  | bad => exact h
end

section
variable {X : Cx} {W : WX} {st : Stmt} {sts : List Stmt} {f g : SemS} {pos : Pos} {e c : Expr} {fe : Sem1 D} {ft : Sem1 Bool}
def sNil : SemS := fun ρ s => .nx ρ s
def sSeq (f g : SemS) : SemS := fun ρ s => match f ρ s with
  | .nx ρ' s' => g ρ' s'
  | r => r
theorem eb_nil : EvB X W [] sNil := pss_nil.imp fun D σ H ⟨wd, A0, A, H0, ρ, s, G, q⟩ => q A σ H G Fr.refl
theorem eb_cons (h1 : EvS X W st f) (h2 : EvB X W sts g) : EvB X W (st :: sts) (sSeq f g) := by
  refine (pss_cons h1 h2).imp fun D σ H q => ?_
  obtain ⟨wd, A0, A, H0, ρ, s, G, q⟩ := q
  refine ⟨wd, A0, A, H0, ρ, s, G, ?_⟩
  unfold sSeq at q
  cases e : f ρ s with
  | nx ρ' s' =>
    rw [e] at q
    exact fun A' σ' H' G' f' => ⟨wd, A0, A', H0, ρ', s', G', q.from f'⟩
  | bk ρ' s' => rw [e] at q; exact q
  | ct ρ' s' => rw [e] at q; exact q
  | rt d s' => rw [e] at q; exact q
  | exc c ρ' s' => rw [e] at q; exact q
  | bad => rw [e] at q; exact q
theorem eb_one (h1 : EvS X W st f) : EvB X W [st] f := pss_one h1
theorem es_pass : EvS X W (.Pass pos) sNil := ps_pass.imp fun D σ H ⟨wd, A0, A, H0, ρ, s, G, q⟩ => q A σ H G Fr.refl
def sBreak : SemS := fun ρ s => .bk ρ s
def sCont : SemS := fun ρ s => .ct ρ s
theorem es_break : EvS X W (.Break pos) sBreak := ps_break.imp fun D σ H ⟨wd, A0, A, H0, ρ, s, G, q⟩ => q A σ H G Fr.refl
theorem es_cont : EvS X W (.Continue pos) sCont := ps_continue.imp fun D σ H ⟨wd, A0, A, H0, ρ, s, G, q⟩ => q A σ H G Fr.refl
/-- an expression alone -/
def sExpr (fe : Sem1 D) : SemS := fun ρ s => (fe ρ s).bindS ρ fun _ s1 => .nx ρ s1
theorem es_expr (h : EvE X W e fe) (hs : swapsWith e none pos.line X.env = pure false := by rfl) : EvS X W (.Expr e pos) (sExpr fe) := by
  refine (ps_expr h hs).imp fun D σ H q => ?_
  obtain ⟨wd, A0, A, H0, ρ, s, G, q⟩ := q
  unfold sExpr at q
  refine tE_bind G (fun x s1 v H1 e1 G1 x1 r1 => ?_) (fun c s1 H1 e1 G1 x1 => by rw [e1] at q; exact q A σ H1 G1 (Fr.of_ext x1 G.dfA)) (fun e1 => by rw [e1] at q; exact q)
  rw [e1] at q
  exact q A σ H1 G1 (Fr.of_ext x1 G.dfA)
/-- the slots' own objects are shared from now on -/
def En.frz (ρ : En) : En := ρ.map SV.frz
theorem En.frz_get {ρ : En} {i : Nat} {sv : SV} (h : ρ.frz[i]? = some sv) : ∃ u, ρ[i]? = some u ∧ sv = u.frz := by
  unfold En.frz at h
  rw [List.getElem?_map] at h
  cases e : ρ[i]? with
  | none => rw [e] at h; cases h
  | some u => rw [e] at h; exact ⟨u, rfl, (Option.some.inj h).symm⟩
theorem SV.frz_ow {u : SV} {o : OV} : ¬ (SV.ow o = u.frz) := by
  cases u <;> (intro h; cases h)
/-- all own objects given up: what is avoided is what the callers hold -/
theorem Good.frz {K : Fg} {mg : Str → Option Value} {wd : Wd} {A0 A : Addr → Prop} {H0 H : Hp} {ρ : En} {s : Dk} {σ : St} (G : Good K mg wd A0 A H0 ρ s σ H) : Good K mg wd A0 A0 H0 ρ.frz s σ H where
  len := by
    have h := G.len
    unfold En.frz
    rw [List.length_map]; exact h
  slot := fun i sv q => by
    obtain ⟨u, q1, rfl⟩ := En.frz_get q
    have h := G.slot i u q1
    have up : ∀ a, A0 a → A a ∨ H a = none := fun a z => .inl (G.a0 a z)
    cases u with
    | un => trivial
    | va d => obtain ⟨v, h1, h2⟩ := h; exact ⟨v, h1, h2.av up⟩
    | ow o =>
      obtain ⟨a, h1, h2, h3, h4⟩ := h
      exact ⟨_, h1, h4.frz up fun z => by
        obtain ⟨ob, z⟩ := G.a0h a z
        rw [G.own0 i o a q1 h1] at z; cases z⟩
    | dk => exact h
    | fv n => exact h
    | sc n => exact h
  dis := fun i j o u a _ h => by
    obtain ⟨u', q1, q2⟩ := En.frz_get h
    exact absurd q2 SV.frz_ow
  own0 := fun i o a h => by
    obtain ⟨u', q1, q2⟩ := En.frz_get h
    exact absurd q2 SV.frz_ow
  a0 := fun _ h => h
  a0h := G.a0h
  ah := fun a h => G.ah a (G.a0 a h)
  df0 := G.df0
  deck := G.deck
  ext := G.ext
/-- return e: the names of own objects may stand in it -/
def sRet (fe : Sem1 D) : SemS := fun ρ s => match fe ρ.frz s with
  | .ok d s1 => .rt d s1
  | .exc c s1 => .exc c ρ.frz s1
  | .bad => .bad
theorem es_ret (h : EvE X W e fe) : EvS X W (.Return (some e) pos) (sRet fe) := by
  refine (ps_ret h).imp fun D σ H q => ?_
  obtain ⟨wd, A0, A, H0, ρ, s, G, q⟩ := q
  unfold sRet at q
  have G' := G.frz
  have f : Fr A H A0 H := ⟨Ext.refl, fun a z => .inl (G.a0 a z)⟩
  refine tE_bind G' (fun x s1 v H1 e1 G1 x1 r1 => ?_) (fun c s1 H1 e1 G1 x1 => ?_) (fun e1 => by rw [e1] at q; exact q)
  · rw [e1] at q
    exact q v H1 G1.deck (G'.ext.trans x1) r1
  · rw [e1] at q
    exact q A0 σ H1 G1 (f.trans (Fr.of_ext x1 G.df0))
def sRetN : SemS := fun ρ s => .rt .none s
theorem es_retN : EvS X W (.Return none pos) sRetN := ps_retN.imp fun D σ H ⟨wd, A0, A, H0, ρ, s, G, q⟩ => q .non H G.deck G.ext .non
/-- if -/
def sIf (ft : Sem1 Bool) (f g : SemS) : SemS := fun ρ s => (ft ρ s).bindS ρ fun b s1 => if b = true then f ρ s1 else g ρ s1
theorem tS_of {K : Fg} {mg : Str → Option Value} {wd : Wd} {A0 A A1 : Addr → Prop} {H0 H H1 : Hp} {D : Ends} {ρ : En} {s : Dk} {σ : St} (G : Good K mg wd A0 A1 H0 ρ s σ H1) (f' : Fr A H A1 H1) (q : RSok K mg W wd A0 H0 A H D (f ρ s)) : tS K mg f W D σ H1 := ⟨wd, A0, A1, H0, ρ, s, G, q.from f'⟩
theorem es_if {a b : List Stmt} (hc : EvT X W c ft) (ha : EvB X W a f) (hb : EvB X W b g) : EvS X W (.If c a b pos) (sIf ft f g) := by
  refine (ps_if hc ha hb).imp fun D σ H q => ?_
  obtain ⟨wd, A0, A, H0, ρ, s, G, q⟩ := q
  unfold sIf at q
  refine tT_bind G (fun b s1 H1 e1 G1 x1 => ?_) (fun c s1 H1 e1 G1 x1 => by rw [e1] at q; exact q A σ H1 G1 (Fr.of_ext x1 G.dfA)) (fun e1 => by rw [e1] at q; exact q)
  rw [e1, Res.bindS_ok] at q
  cases b with
  | true => rw [if_pos rfl] at q ⊢; exact tS_of G1 (Fr.of_ext x1 G.dfA) q
  | false => rw [if_neg (by decide)] at q ⊢; exact tS_of G1 (Fr.of_ext x1 G.dfA) q

/-! ### stores -/
theorem get_set {α : Type} {l : List α} {i j : Nat} {x y : α} (h : (l.set i x)[j]? = some y) : (j = i ∧ y = x ∧ i < l.length) ∨ (j ≠ i ∧ l[j]? = some y) := by
  by_cases e : j = i
  · subst e
    by_cases hl : j < l.length
    · rw [List.getElem?_set_self hl] at h
      exact .inl ⟨rfl, (Option.some.inj h).symm, hl⟩
    · rw [List.getElem?_eq_none (by simpa using hl)] at h; cases h
  · rw [List.getElem?_set_ne (fun z => e z.symm)] at h
    exact .inr ⟨e, h⟩
theorem set_self {α : Type} {l : List α} {i : Nat} {x : α} (h : i < l.length) : (l.set i x)[i]? = some x := List.getElem?_set_self h
/-- a value is stored in slot i -/
theorem Good.put {K : Fg} {mg : Str → Option Value} {wd : Wd} {A0 A : Addr → Prop} {H0 H : Hp} {ρ : En} {s : Dk} {σ : St} {i : Nat} {v : V} {d : D} (G : Good K mg wd A0 A H0 ρ s σ H) (r : Rp K H A v d) : Good K mg wd A0 A H0 (ρ.set i (.va d)) s (σ.set i (some v)) H where
  len := by rw [List.length_set, List.length_set]; exact G.len
  slot := fun j sv q => by
    rcases get_set q with ⟨rfl, rfl, hl⟩ | ⟨hj, q⟩
    · exact ⟨v, set_self (by rw [← G.len]; exact hl), r⟩
    · rw [List.getElem?_set_ne (fun z => hj z.symm)]; exact G.slot j sv q
  dis := fun j k o u a hjk h1 h2 h3 h4 => by
    rcases get_set h1 with ⟨_, z, _⟩ | ⟨hj, h1⟩
    · cases z
    · rcases get_set h2 with ⟨_, z, _⟩ | ⟨hk, h2⟩
      · cases z
      · rw [List.getElem?_set_ne (fun z => hj z.symm)] at h3
        rw [List.getElem?_set_ne (fun z => hk z.symm)] at h4
        exact G.dis j k o u a hjk h1 h2 h3 h4
  own0 := fun j o a h1 h3 => by
    rcases get_set h1 with ⟨_, z, _⟩ | ⟨hj, h1⟩
    · cases z
    · rw [List.getElem?_set_ne (fun z => hj z.symm)] at h3
      exact G.own0 j o a h1 h3
  a0 := G.a0
  a0h := G.a0h
  ah := G.ah
  df0 := G.df0
  deck := G.deck
  ext := G.ext
/-- what a target does with a value: the slots behind it -/
abbrev SemG := D → En → Option En
/-- only the slots ws differ -/
def OnlyAt (ws : List Nat) (σ σ' : St) : Prop := σ'.length = σ.length ∧ ∀ j, j ∉ ws → σ'[j]? = σ[j]?
theorem OnlyAt.refl {ws : List Nat} {σ : St} : OnlyAt ws σ σ := ⟨rfl, fun _ _ => rfl⟩
theorem OnlyAt.trans {ws vs : List Nat} {σ σ1 σ2 : St} (a : OnlyAt ws σ σ1) (b : OnlyAt vs σ1 σ2) : OnlyAt (ws ++ vs) σ σ2 :=
  ⟨b.1.trans a.1, fun j h => (b.2 j fun z => h (List.mem_append_right _ z)).trans (a.2 j fun z => h (List.mem_append_left _ z))⟩
def RG (K : Fg) (mg : Str → Option Value) (ws : List Nat) (wd : Wd) (A0 A : Addr → Prop) (H0 : Hp) (s : Dk) (σ : St) (H : Hp) (Q : St → Hp → Prop) : Option En → Prop
  | some ρ' => ∀ σ' , Good K mg wd A0 A H0 ρ' s σ' H → OnlyAt ws σ σ' → Q σ' H
  | none => False
def tG (K : Fg) (mg : Str → Option Value) (g : SemG) (ws : List Nat) : TG := fun v σ H Q => ∃ wd A0 A H0 ρ s d, Good K mg wd A0 A H0 ρ s σ H ∧ Rp K H A v d ∧ RG K mg ws wd A0 A H0 s σ H Q (g d ρ)
abbrev EvG (X : Cx) (tg : Expr) (g : SemG) (ws : List Nat) : Prop := PG X tg (tG X.K X.mg g ws)
theorem _root_.L2.PG.imp {tg : Expr} {t t' : TG} (h : PG X tg t) (i : ∀ v σ H Q, t' v σ H Q → t v σ H Q) : PG X tg t' := ⟨fun pins s σ H v u Q I r q => h.run pins s σ H v u Q I r (i v σ H Q q)⟩
theorem _root_.L2.PGs.imp {tg : List Expr} {t t' : TGs} (h : PGs X tg t) (i : ∀ v σ H Q, t' v σ H Q → t v σ H Q) : PGs X tg t' := ⟨fun pins s σ H v u Q I r q => h.run pins s σ H v u Q I r (i v σ H Q q)⟩
def gVar (i : Nat) : SemG := fun d ρ => some (ρ.set i (.va d))
theorem eg_var {i : Nat} {x : Str} (h : PG X (.Name x pos) (gName i)) : EvG X (.Name x pos) (gVar i) [i] := by
  refine h.imp fun v σ H Q q => ?_
  obtain ⟨wd, A0, A, H0, ρ, s, d, G, r, q⟩ := q
  exact q _ (G.put r) ⟨by simp, fun j hj => List.getElem?_set_ne fun z => hj (by simp [z])⟩
/-- several targets -/
abbrev SemGs := List D → En → Option En
def tGs (K : Fg) (mg : Str → Option Value) (g : SemGs) (ws : List Nat) : TGs := fun vs σ H Q => ∃ wd A0 A H0 ρ s ds, Good K mg wd A0 A H0 ρ s σ H ∧ RpAll K H A vs ds ∧ RG K mg ws wd A0 A H0 s σ H Q (g ds ρ)
abbrev EvGs (X : Cx) (tgs : List Expr) (g : SemGs) (ws : List Nat) : Prop := PGs X tgs (tGs X.K X.mg g ws)
def gsNil : SemGs := fun ds ρ => match ds with
  | [] => some ρ
  | _ => none
def gsCons (g : SemG) (gs : SemGs) : SemGs := fun ds ρ => match ds with
  | d :: r => (g d ρ).bind fun ρ1 => gs r ρ1
  | [] => none
theorem egs_nil : EvGs X [] gsNil [] := by
  refine pgs_nil.imp fun vs σ H Q q => ?_
  obtain ⟨wd, A0, A, H0, ρ, s, ds, G, r, q⟩ := q
  cases r with
  | nil => exact ⟨rfl, q σ G OnlyAt.refl⟩
  | cons h r => exact q.elim
theorem egs_cons {es : List Expr} {g : SemG} {gs : SemGs} {ws vs : List Nat} (h1 : EvG X e g ws) (h2 : EvGs X es gs vs) (hs : (assignEach (e :: es) X.env).map (·.2) = assign e X.env :: (assignEach es X.env).map (·.2) := by rfl) : EvGs X (e :: es) (gsCons g gs) (ws ++ vs) := by
  refine (pgs_cons h1 h2 hs).imp fun vs σ H Q q => ?_
  obtain ⟨wd, A0, A, H0, ρ, s, ds, G, r, q⟩ := q
  cases r with
  | nil => exact q.elim
  | cons h r =>
    rename_i v vs d ds
    refine ⟨v, vs, rfl, wd, A0, A, H0, ρ, s, d, G, h, ?_⟩
    unfold gsCons at q
    cases e1 : g d ρ with
    | none => simp only [e1] at q; exact q.elim
    | some ρ1 =>
      simp only [e1, Option.bind_some] at q
      refine fun σ' G' o => ⟨wd, A0, A, H0, ρ1, s, ds, G', r, ?_⟩
      cases e2 : gs ds ρ1 with
      | none => rw [e2] at q; exact q
      | some ρ2 => rw [e2] at q; exact fun σ2 G2 o2 => q σ2 G2 (o.trans o2)
/-- (a, b, ..) = a tuple -/
def gTupD (n : Nat) (gs : SemGs) : SemG := fun d ρ => match d with
  | .tuple ds => if ds.length = n then gs ds ρ else none
  | _ => none
theorem eg_tup {es : List Expr} {k n : Nat} {gs : SemGs} {ws : List Nat} (hc : X.calm = true) (h : EvGs X es gs ws) (hn : (assignEach es X.env).length = n := by rfl) (hst : (assignEach es X.env).findIdx? (·.1) = none := by rfl) : EvG X (.Tuple es k pos) (gTupD n gs) ws := by
  refine (pg_tup hc h hn hst).imp fun v σ H Q q => ?_
  obtain ⟨wd, A0, A, H0, ρ, s, d, G, r, q⟩ := q
  cases d with
  | tuple ds =>
    obtain ⟨a, xs, rfl, ht, rx⟩ := r.tuple
    by_cases hl : ds.length = n
    · have q : RG X.K X.mg ws wd A0 A H0 s σ H Q (gs ds ρ) := by
        have q' := q
        unfold gTupD at q'
        simpa only [if_pos hl] using q'
      exact ⟨a, xs, rfl, ht, by rw [rx.len]; exact hl, wd, A0, A, H0, ρ, s, ds, G, rx, q⟩
    · unfold gTupD at q
      simp only [if_neg hl] at q
      exact q.elim
  | _ => exact q.elim
/-- target = value -/
def sAsg (fe : Sem1 D) (g : SemG) : SemS := fun ρ s => (fe ρ s).bindS ρ fun d s1 => match g d ρ with
  | some ρ' => .nx ρ' s1
  | none => .bad
theorem tAsg_of {K : Fg} {mg : Str → Option Value} {g : SemG} {ws : List Nat} {D : Ends} {σ : St} {H : Hp} (q : tS K mg (sAsg fe g) W D σ H) : tAsg (tE K mg fe W) (tG K mg g ws) D σ H := by
  obtain ⟨wd, A0, A, H0, ρ, s, G, q⟩ := q
  unfold sAsg at q
  refine tE_bind G (fun x s1 v H1 e1 G1 x1 r1 => ?_) (fun c s1 H1 e1 G1 x1 => by rw [e1] at q; exact q A σ H1 G1 (Fr.of_ext x1 G.dfA)) (fun e1 => by rw [e1] at q; exact q)
  rw [e1, Res.bindS_ok] at q
  refine ⟨wd, A0, A, H0, ρ, s1, x, G1, r1, ?_⟩
  cases e2 : g x ρ with
  | none => rw [e2] at q; exact q
  | some ρ' => rw [e2] at q; exact fun σ' G' _ => q A σ' H1 G' (Fr.of_ext x1 G.dfA)
theorem es_asg {tg : Expr} {g : SemG} {ws : List Nat} (he : EvE X W e fe) (hg : EvG X tg g ws) (hs : swapsWithSole [tg] e pos.line X.env = pure false := by rfl) (hw : swappedStores [tg] e X.env = pure none := by rfl)
    (h1 : (assignEach [tg] X.env).map (·.2) = [assign tg X.env] := by rfl) : EvS X W (.Assign [tg] e pos) (sAsg fe g) := (ps_asg he hg hs hw h1).imp fun D σ H => tAsg_of
theorem tName_of {K : Fg} {mg : Str → Option Value} {i : Nat} {D : Ends} {σ : St} {H : Hp} (q : tS K mg (sAsg fe (gVar i)) W D σ H) : tAsg (tE K mg fe W) (gName i) D σ H := by
  obtain ⟨wd, A0, A, H0, ρ, s, G, q⟩ := q
  unfold sAsg at q
  refine tE_bind G (fun x s1 v H1 e1 G1 x1 r1 => ?_) (fun c s1 H1 e1 G1 x1 => by rw [e1] at q; exact q A σ H1 G1 (Fr.of_ext x1 G.dfA)) (fun e1 => by rw [e1] at q; exact q)
  rw [e1, Res.bindS_ok] at q
  exact q A _ H1 (G1.put r1) (Fr.of_ext x1 G.dfA)
theorem es_set {i : Nat} {x : Str} {pos' : Pos} (hN : X.N.Nodup) (hi : X.N[i]? = some x) (hx : Loc X.env.scope x) (he : EvE X W e fe) (hs : swapsWith e (some (.Name x pos')) pos.line X.env = pure false := by rfl) (hf : X.fn x = true ∨ X.env.scope.names.lookup x = some .local := by first | exact .inl rfl | exact .inr rfl | assumption) :
    EvS X W (.Assign [.Name x pos'] e pos) (sAsg fe (gVar i)) := (ps_set hN hi hx he hs hf).imp fun D σ H => tName_of
/-- name op= e -/
def sAug (i : Nat) (g : D → D → Option D) (fe : Sem1 D) : SemS := fun ρ s => match ρ[i]? with
  | some (.va x) => (fe ρ s).bindS ρ fun y s1 => match g x y with
    | some z => .nx (ρ.set i (.va z)) s1
    | none => .bad
  | _ => .bad
theorem es_aug {i : Nat} {x : Str} {op : Operator} {g : D → D → Option D} {pos' : Pos} (hN : X.N.Nodup) (hi : X.N[i]? = some x) (hx : Loc X.env.scope x) (he : EvE X W e fe) (ho : PIp X op (rD X.K g)) (hf : X.fn x = true ∨ X.env.scope.names.lookup x = some .local := by first | exact .inl rfl | exact .inr rfl | assumption) :
    EvS X W (.AugAssign (.Name x pos') op e pos) (sAug i g fe) := by
  refine (ps_aug hN hi hx he ho hf).imp fun D σ H q => ?_
  obtain ⟨wd, A0, A, H0, ρ, s, G, q⟩ := q
  unfold sAug at q
  cases e0 : ρ[i]? with
  | none => rw [e0] at q; exact q.elim
  | some sv =>
    rw [e0] at q
    cases sv with
    | va d =>
      obtain ⟨v, e1, r⟩ := G.slot i _ e0
      refine ⟨v, e1, ?_⟩
      refine tE_bind G (fun x s1 u H1 e1 G1 x1 r1 => ?_) (fun c s1 H1 e1 G1 x1 => by simp only [e1] at q; exact q A σ H1 G1 (Fr.of_ext x1 G.dfA)) (fun e1 => by simp only [e1] at q; exact q)
      simp only [e1, Res.bindS_ok] at q
      cases e2 : g d x with
      | none => rw [e2] at q; exact q.elim
      | some z =>
        rw [e2] at q
        exact ⟨A, d, x, z, G1.ah, G.rp r x1, r1, e2, fun w H2 sm r2 => q A _ H2 ((G1.same sm).put r2) (Fr.of_ext (x1.trans (Ext.same sm)) G.dfA)⟩
    | un => exact q.elim
    | ow _ => exact q.elim
    | dk => exact q.elim
    | fv _ => exact q.elim
    | sc _ => exact q.elim
end
end Cw

namespace Cw
open PySem PySem.Spec PyProof.Rows L2
section
variable {X : Cx} {W : WX} {st : Stmt} {sts : List Stmt} {f g : SemS} {pos : Pos} {e c : Expr} {fe : Sem1 D} {ft : Sem1 Bool} {fl : Sem1 (List D)}

/-! ### a name takes a new list as its own -/
theorem Good.own {K : Fg} {mg : Str → Option Value} {wd : Wd} {A0 A : Addr → Prop} {H0 H H' : Hp} {ρ : En} {s s' : Dk} {σ : St} {i : Nat} {p : Addr} {xs : List V} {ds : List D}
    (G : Good K mg wd A0 A H0 ρ s σ H) (G' : Good K mg wd A0 A H0 ρ s' σ H') (e : Ext wd.df H H') (np : H p = none) (hp : H' p = some (.lst xs)) (r : RpAll K H' (fun a => A a ∨ a = p) xs ds) :
    Good K mg wd A0 (fun a => A a ∨ a = p) H0 (ρ.set i (.ow (.lst ds))) s' (σ.set i (some (.ref p))) H' where
  len := by rw [List.length_set, List.length_set]; exact G.len
  slot := fun j sv q => by
    have up : ∀ a, (A a ∨ a = p) → A a ∨ H a = none := fun a z => z.elim .inl fun z => .inr (by rw [z]; exact np)
    have dfp : ∀ a, wd.df a → A a ∨ a = p := fun a z => .inl (G.dfA a z)
    rcases get_set q with ⟨rfl, rfl, hl⟩ | ⟨hj, q⟩
    · refine ⟨p, set_self (by rw [← G.len]; exact hl), .inr rfl, fun z => ?_, xs, hp, r⟩
      obtain ⟨o, z⟩ := G.ah p (G.dfA p z)
      rw [np] at z; cases z
    · rw [List.getElem?_set_ne (fun z => hj z.symm)]
      have h := G.slot j sv q
      cases sv with
      | un => trivial
      | va d => obtain ⟨v, h1, h2⟩ := h; exact ⟨v, h1, (h2.av up).ext e dfp⟩
      | ow o =>
        obtain ⟨a, h1, h2, h3, h4⟩ := h
        obtain ⟨u, q5, _⟩ := h4.there
        exact ⟨a, h1, .inl h2, h3, (h4.av up).ext e dfp (by rw [q5]; exact e.keep _ _ q5 h3)⟩
      | dk => exact h
      | fv n => exact h
      | sc n => obtain ⟨a, q1, q2⟩ := h; exact ⟨a, q1, q2.ext e⟩
  dis := fun j k o u a hjk h1 h2 h3 h4 => by
    have no : ∀ (k : Nat) (u : OV), ρ[k]? = some (.ow u) → σ[k]? = some (some (.ref p)) → False := fun k u z1 z2 => by
      obtain ⟨b, q1, q2, q3, q4⟩ := G.slot k _ z1
      rw [z2] at q1
      have : p = b := by injection (Option.some.inj (Option.some.inj q1))
      subst this
      obtain ⟨o', z, _⟩ := q4.there
      rw [np] at z; cases z
    rcases get_set h1 with ⟨ji, _, hl⟩ | ⟨hj, h1'⟩
    · rcases get_set h2 with ⟨ki, _, _⟩ | ⟨hk, h2'⟩
      · exact hjk (ji.trans ki.symm)
      · rw [ji, set_self (by rw [← G.len]; exact hl)] at h3
        cases h3
        rw [List.getElem?_set_ne (fun z => hk z.symm)] at h4
        exact no k u h2' h4
    · rw [List.getElem?_set_ne (fun z => hj z.symm)] at h3
      rcases get_set h2 with ⟨ki, _, hl⟩ | ⟨hk, h2'⟩
      · rw [ki, set_self (by rw [← G.len]; exact hl)] at h4
        cases h4
        exact no j o h1' h3
      · rw [List.getElem?_set_ne (fun z => hk z.symm)] at h4
        exact G.dis j k o u a hjk h1' h2' h3 h4
  own0 := fun j o a h1 h3 => by
    rcases get_set h1 with ⟨rfl, _, hl⟩ | ⟨hj, h1⟩
    · rw [set_self (by rw [← G.len]; exact hl)] at h3
      cases h3
      cases z : H0 p with
      | none => rfl
      | some o =>
        obtain ⟨o', z'⟩ := G.ext.there p o z
        rw [np] at z'; cases z'
    · rw [List.getElem?_set_ne (fun z => hj z.symm)] at h3
      exact G.own0 j o a h1 h3
  a0 := fun a z => .inl (G.a0 a z)
  a0h := G.a0h
  ah := fun a z => z.elim (G'.ah a) fun z => ⟨_, (congrArg H' z).trans hp⟩
  df0 := G.df0
  deck := G'.deck
  ext := G'.ext
def sOwn (i : Nat) (fl : Sem1 (List D)) : SemS := fun ρ s => (fl ρ s).bindS ρ fun ds s1 => .nx (ρ.set i (.ow (.lst ds))) s1
theorem es_own {i : Nat} {x : Str} {pos' : Pos} (hN : X.N.Nodup) (hi : X.N[i]? = some x) (hx : Loc X.env.scope x) (he : EvO X W e fl) (hs : swapsWith e (some (.Name x pos')) pos.line X.env = pure false := by rfl) (hf : X.fn x = true ∨ X.env.scope.names.lookup x = some .local := by first | exact .inl rfl | exact .inr rfl | assumption) :
    EvS X W (.Assign [.Name x pos'] e pos) (sOwn i fl) := by
  refine (ps_set hN hi hx he hs hf).imp fun D σ H q => ?_
  obtain ⟨wd, A0, A, H0, ρ, s, G, q⟩ := q
  unfold sOwn at q
  refine ⟨wd, A0, A, H0, ρ, s, G, ?_⟩
  cases e1 : fl ρ s with
  | ok ds s1 =>
    rw [e1] at q
    intro p xs H' G' x1 np hp r
    refine q _ _ H' (G.own G' x1 np hp r) ⟨x1.mono G.dfA, fun a z => z.elim .inl fun z => .inr (by rw [z]; exact np)⟩
  | exc c s1 => rw [e1] at q; exact fun H' G' x1 => q A σ H' G' (Fr.of_ext x1 G.dfA)
  | bad => rw [e1] at q; exact q

/-! ### one slot's own object is shared from now on; all of them looked at -/
def frz1 (i : Nat) (ρ : En) : En := match ρ[i]? with
  | some (.ow o) => ρ.set i (.va o.dat)
  | _ => ρ
theorem Good.frz1 {K : Fg} {mg : Str → Option Value} {wd : Wd} {A0 A : Addr → Prop} {H0 H : Hp} {ρ : En} {s : Dk} {σ : St} (i : Nat) (G : Good K mg wd A0 A H0 ρ s σ H) : ∃ A', Good K mg wd A0 A' H0 (frz1 i ρ) s σ H ∧ Fr A H A' H := by
  unfold Cw.frz1
  cases e : ρ[i]? with
  | none => exact ⟨A, G, Fr.refl⟩
  | some sv =>
    cases sv with
    | un => exact ⟨A, G, Fr.refl⟩
    | va d => exact ⟨A, G, Fr.refl⟩
    | dk => exact ⟨A, G, Fr.refl⟩
    | fv n => exact ⟨A, G, Fr.refl⟩
    | sc n => exact ⟨A, G, Fr.refl⟩
    | ow o =>
      obtain ⟨p, e1, hA, hd, ho⟩ := G.slot i _ e
      have n0 : ∀ a, A0 a → a ≠ p := fun a z q => by
        obtain ⟨u, z'⟩ := G.a0h a z
        rw [q, G.own0 i o p e e1] at z'; cases z'
      have up : ∀ a, (A a ∧ a ≠ p) → A a ∨ H a = none := fun a z => .inl z.1
      refine ⟨fun a => A a ∧ a ≠ p, ⟨?_, fun j sv q => ?_, fun j k u v a hjk h1 h2 h3 h4 => ?_, fun j u a h1 h3 => ?_, fun a z => ⟨G.a0 a z, n0 a z⟩, G.a0h, fun a z => G.ah a z.1, G.df0, G.deck, G.ext⟩, ⟨Ext.refl, fun a z => .inl z.1⟩⟩
      · show (ρ.set i _).length = _; rw [List.length_set]; exact G.len
      · rcases get_set q with ⟨rfl, rfl, hl⟩ | ⟨hj, q⟩
        · exact ⟨.ref p, e1, ho.frz up fun z => z.2 rfl⟩
        · have h := G.slot j sv q
          cases sv with
          | un => trivial
          | va d => obtain ⟨v, h1, h2⟩ := h; exact ⟨v, h1, h2.av up⟩
          | ow u =>
            obtain ⟨a, h1, h2, h3, h4⟩ := h
            exact ⟨a, h1, ⟨h2, fun z => G.dis j i u o p hj q e (by rw [h1, z]) e1⟩, h3, h4.av up⟩
          | dk => exact h
          | fv n => exact h
          | sc n => exact h
      · rcases get_set h1 with ⟨_, z, _⟩ | ⟨hj, h1⟩
        · cases z
        · rcases get_set h2 with ⟨_, z, _⟩ | ⟨hk, h2⟩
          · cases z
          · exact G.dis j k u v a hjk h1 h2 h3 h4
      · rcases get_set h1 with ⟨_, z, _⟩ | ⟨hj, h1⟩
        · cases z
        · exact G.own0 j u a h1 h3
def sFrz (i : Nat) (f : SemS) : SemS := fun ρ s => f (frz1 i ρ) s
theorem es_frz (i : Nat) (h : EvS X W st f) : EvS X W st (sFrz i f) := by
  refine h.imp fun D σ H q => ?_
  obtain ⟨wd, A0, A, H0, ρ, s, G, q⟩ := q
  obtain ⟨A', G', fr⟩ := G.frz1 i
  exact ⟨wd, A0, A', H0, _, s, G', q.from fr⟩
/-- e looks at own objects, its value holds no list -/
def fView (fe : Sem1 D) : Sem1 D := fun ρ s => match fe ρ.frz s with
  | .ok d s1 => if pureD d = true then .ok d s1 else .bad
  | r => r
def fViewT (ft : Sem1 Bool) : Sem1 Bool := fun ρ s => ft ρ.frz s
theorem Good.back {K : Fg} {mg : Str → Option Value} {wd : Wd} {A0 A : Addr → Prop} {H0 H H' : Hp} {ρ : En} {s s' : Dk} {σ : St} (G : Good K mg wd A0 A H0 ρ s σ H) (G' : Good K mg wd A0 A0 H0 ρ.frz s' σ H') (e : Ext wd.df H H') : Good K mg wd A0 A H0 ρ s' σ H' := G.step e G'.deck
theorem ev_view (h : EvE X W e fe) : EvE X W e (fView fe) := by
  refine h.imp fun σ H Q q => ?_
  obtain ⟨wd, A0, A, H0, ρ, s, G, q⟩ := q
  unfold fView at q
  refine tE_bind G.frz (fun x s1 v H1 e1 G1 x1 r1 => ?_) (fun c s1 H1 e1 G1 x1 => by rw [e1] at q; exact q H1 (G.back G1 x1) x1) (fun e1 => by rw [e1] at q; exact q)
  rw [e1] at q
  by_cases hp : pureD x = true
  · simp only [if_pos hp] at q
    exact q v H1 (G.back G1 x1) x1 (r1.pure hp)
  · simp only [if_neg hp] at q
    exact q.elim
theorem et_view (h : EvT X W e ft) : EvT X W e (fViewT ft) := by
  refine h.imp fun σ H Q q => ?_
  obtain ⟨wd, A0, A, H0, ρ, s, G, q⟩ := q
  unfold fViewT at q
  exact tT_bind G.frz (fun x s1 H1 e1 G1 x1 => by rw [e1] at q; exact q H1 (G.back G1 x1) x1) (fun c s1 H1 e1 G1 x1 => by rw [e1] at q; exact q H1 (G.back G1 x1) x1) (fun e1 => by rw [e1] at q; exact q)

/-! ### methods of own lists -/
/-- the own list at slot i is another one from now on -/
theorem Good.setOwn {K : Fg} {mg : Str → Option Value} {wd : Wd} {A0 A : Addr → Prop} {H0 H : Hp} {ρ : En} {s : Dk} {σ : St} {i : Nat} {p : Addr} {o : OV} {xs : List V} {ds : List D} (G : Good K mg wd A0 A H0 ρ s σ H) (e : ρ[i]? = some (.ow o)) (e1 : σ[i]? = some (some (.ref p))) (r : RpAll K H A xs ds) :
    Good K mg wd A0 A H0 (ρ.set i (.ow (.lst ds))) s σ (upd H p (.lst xs)) ∧ Fr A H A (upd H p (.lst xs)) := by
  obtain ⟨p', e1', hA, hd, ho⟩ := G.slot i _ e
  obtain rfl : p = p' := by rw [e1] at e1'; injection (Option.some.inj (Option.some.inj e1'))
  obtain ⟨u, hu, mu⟩ := ho.there
  have ext : Ext (fun a => a = p) H (upd H p (.lst xs)) := ⟨fun a o q n => by rw [upd_ne n]; exact q, fun a ys q => by
      rw [upd_ne (fun z => by rw [z, hu] at q; cases q; exact mu)]; exact q, fun a ob w q => by
      rw [upd_ne (fun z => by rw [z, hu] at q; cases q; exact mu)]; exact q, fun a o q => by
      by_cases z : a = p
      · exact ⟨_, by rw [z]; exact upd_same⟩
      · exact ⟨o, by rw [upd_ne z]; exact q⟩⟩
  have inA : ∀ a, a = p → A a := fun a z => by rw [z]; exact hA
  refine ⟨⟨by rw [List.length_set]; exact G.len, fun j sv q => ?_, fun j k u v a hjk h1 h2 h3 h4 => ?_, fun j u a h1 h3 => ?_, G.a0, G.a0h, fun a z => let ⟨o, q⟩ := G.ah a z; ext.there a o q, G.df0, ?_, ?_⟩, ⟨ext.mono inA, fun a z => .inl z⟩⟩
  · rcases get_set q with ⟨rfl, rfl, hl⟩ | ⟨hj, q⟩
    · exact ⟨p, e1, hA, hd, xs, upd_same, r.ext ext inA⟩
    · have h := G.slot j sv q
      cases sv with
      | un => trivial
      | va d => obtain ⟨v, h1, h2⟩ := h; exact ⟨v, h1, h2.ext ext inA⟩
      | ow w =>
        obtain ⟨a, h1, h2, h3, h4⟩ := h
        have ne : a ≠ p := fun z => G.dis j i w o p hj q e (by rw [h1, z]) e1
        exact ⟨a, h1, h2, h3, h4.ext ext inA (upd_ne ne)⟩
      | dk => exact h
      | fv n => exact h
      | sc n => obtain ⟨a, q1, q2⟩ := h; exact ⟨a, q1, q2.ext ext⟩
  · have get : ∀ {j : Nat} {u : OV}, (ρ.set i (.ow (.lst ds)))[j]? = some (.ow u) → ∃ u', ρ[j]? = some (.ow u') := fun {j u} h => by
      rcases get_set h with ⟨rfl, _, _⟩ | ⟨_, h⟩
      · exact ⟨_, e⟩
      · exact ⟨_, h⟩
    obtain ⟨u', q1⟩ := get h1
    obtain ⟨v', q2⟩ := get h2
    exact G.dis j k u' v' a hjk q1 q2 h3 h4
  · rcases get_set h1 with ⟨rfl, _, _⟩ | ⟨_, h1⟩
    · exact G.own0 j o a e h3
    · exact G.own0 j u a h1 h3
  · exact wd.fr s H _ G.deck fun a z => upd_ne fun q => hd (by rw [← q]; exact z)
  · refine ⟨fun a o q n => ?_, fun a ys q => ext.tups a ys (G.ext.tups a ys q), fun a ob w q => ext.frzs a ob w (G.ext.frzs a ob w q), fun a o q => let ⟨o', q'⟩ := G.ext.there a o q; ext.there a o' q'⟩
    exact ext.keep a o (G.ext.keep a o q n) fun z => by
      rw [z, G.own0 i _ p e e1] at q; cases q
/-- x.append(e) -/
def sApp (i : Nat) (fe : Sem1 D) : SemS := fun ρ s => match ρ[i]? with
  | some (.ow (.lst ds)) => (fe ρ s).bindS ρ fun d s1 => if lineOk (ds.length + 1) = true then .nx (ρ.set i (.ow (.lst (ds ++ [d])))) s1 else .bad
  | _ => .bad
theorem own_var {X : Cx} {wd : Wd} {A0 A : Addr → Prop} {H0 H : Hp} {ρ : En} {s : Dk} {σ : St} {i : Nat} {ds : List D} (G : Good X.K X.mg wd A0 A H0 ρ s σ H) (e : ρ[i]? = some (.ow (.lst ds))) : ∃ p xs, σ[i]? = some (some (.ref p)) ∧ H p = some (.lst xs) ∧ RpAll X.K H A xs ds ∧ ¬ wd.df p := by
  obtain ⟨p, e1, hA, hd, xs, h1, h2⟩ := G.slot i _ e
  exact ⟨p, xs, e1, h1, h2, hd⟩
theorem ty_list {K : Fg} {p : Addr} {H : Hp} {xs : List V} (h : H p = some (.lst xs)) : tyV K "list" (.ref p) H := .inl ⟨rfl, _, .inl (.inl h)⟩
theorem fr_step {A : Addr → Prop} {wd : Wd} {H H1 H2 : Hp} (x1 : Ext wd.df H H1) (dfA : ∀ a, wd.df a → A a) (f : Fr A H1 A H2) : Fr A H A H2 := (Fr.of_ext x1 dfA).trans f
theorem es_app {i : Nat} {x : Str} {p1 p2 p3 : Pos} (hm : PE X (.Call (.Attribute (.Name x p1) "append" p2) [e] [] p3) (tBM X.K "list" rAppend (tVar i) (tCons (tE X.K X.mg fe W) tNil)))
    (hs : swapsWith (.Call (.Attribute (.Name x p1) "append" p2) [e] [] p3) none pos.line X.env = pure false := by rfl) : EvS X W (.Expr (.Call (.Attribute (.Name x p1) "append" p2) [e] [] p3) pos) (sApp i fe) := by
  refine (ps_expr hm hs).imp fun D σ H q => ?_
  obtain ⟨wd, A0, A, H0, ρ, s, G, q⟩ := q
  unfold sApp at q
  split at q
  · rename_i ds e0
    obtain ⟨p, xs, e1, h1, r1, hd⟩ := own_var G e0
    refine ⟨_, e1, ty_list h1, ?_⟩
    refine tE_bind G (fun d s1 v H1 e2 G1 x1 r2 => ?_) (fun c s1 H1 e2 G1 x1 => by rw [e2] at q; exact q A σ H1 G1 (Fr.of_ext x1 G.dfA)) (fun e2 => by rw [e2] at q; exact q)
    rw [e2, Res.bindS_ok] at q
    by_cases hl : lineOk (ds.length + 1) = true
    · rw [if_pos hl] at q
      obtain ⟨G2, f2⟩ := G1.setOwn e0 e1 ((G.rps r1 x1).append (.cons r2 .nil))
      refine ⟨p, xs, v, rfl, rfl, x1.keep _ _ h1 hd, ?_, q A σ _ G2 (fr_step x1 G.dfA f2)⟩
      rw [r1.len]; exact Nat.lt_of_lt_of_le (Nat.lt_succ_self _) (lineOk_le hl)
    · rw [if_neg hl] at q; exact q.elim
  · exact q.elim
theorem pm_app {i : Nat} {x : Str} {p1 p2 p3 : Pos} {t : TE} (hx : PE X (.Name x p1) (tVar i)) (ha : PE X e t) (hbase : attributeBase (.Name x p1) "append" X.env (eval (.Name x p1) X.env) = eval (.Name x p1) X.env := by rfl)
    (hfew : ((backTo p3 (starEach [e] X.env)).all (fun x => !x.1) && (backToKw p3 (keywordEach [] X.env)).all (fun x => x.1.isSome)
      && decide ([e].length + ([] : List Keyword).length + (if ([] : List Keyword).isEmpty then 0 else 1) < 30)) = true := by rfl)
    (hline : (p2.endLine == p3.line) = true := by rfl) (hs : starEach [e] X.env = (false, eval e X.env) :: starEach [] X.env := by rfl) :
    PE X (.Call (.Attribute (.Name x p1) "append" p2) [e] [] p3) (tBM X.K "list" rAppend (tVar i) (tCons t tNil)) :=
  pe_bm PySem.F.plainAttrs_list PySem.F.slot_list_append PySem.F.type_list_append mt_append hx (pa_cons ha pa_nil hs) hbase hfew hline hs (by rfl)
/-- x.extend(e), e a new list -/
def sExt (i : Nat) (fl : Sem1 (List D)) : SemS := fun ρ s => match ρ[i]? with
  | some (.ow (.lst ds)) => (fl ρ s).bindS ρ fun es s1 => if lineOk (ds.length + es.length) = true then .nx (ρ.set i (.ow (.lst (ds ++ es)))) s1 else .bad
  | _ => .bad
theorem tO_bind {K : Fg} {mg : Str → Option Value} {wd : Wd} {A0 A : Addr → Prop} {H0 H : Hp} {ρ : En} {s : Dk} {σ : St} {f : Sem1 (List D)} {Q : VK} (G : Good K mg wd A0 A H0 ρ s σ H)
    (hok : ∀ ds s' p xs H', f ρ s = .ok ds s' → Good K mg wd A0 A H0 ρ s' σ H' → Ext wd.df H H' → H p = none → H' p = some (.lst xs) → RpAll K H' (fun a => A a ∨ a = p) xs ds → Q (.ref p) H')
    (hexc : ∀ c s' H', f ρ s = .exc c s' → Good K mg wd A0 A H0 ρ s' σ H' → Ext wd.df H H' → W (xv mg c) none σ H') (hbad : f ρ s = .bad → False) : tO K mg f W σ H Q := by
  refine ⟨wd, A0, A, H0, ρ, s, G, ?_⟩
  cases e : f ρ s with
  | ok d s' => exact fun p xs H' => hok d s' p xs H' e
  | exc c s' => exact fun H' => hexc c s' H' e
  | bad => exact hbad e
theorem es_ext {i : Nat} {x : Str} {p1 p2 p3 : Pos} (hm : PE X (.Call (.Attribute (.Name x p1) "extend" p2) [e] [] p3) (tBM X.K "list" rExtend (tVar i) (tCons (tO X.K X.mg fl W) tNil)))
    (hs : swapsWith (.Call (.Attribute (.Name x p1) "extend" p2) [e] [] p3) none pos.line X.env = pure false := by rfl) : EvS X W (.Expr (.Call (.Attribute (.Name x p1) "extend" p2) [e] [] p3) pos) (sExt i fl) := by
  refine (ps_expr hm hs).imp fun D σ H q => ?_
  obtain ⟨wd, A0, A, H0, ρ, s, G, q⟩ := q
  unfold sExt at q
  split at q
  · rename_i ds e0
    obtain ⟨p, xs, e1, h1, r1, hd⟩ := own_var G e0
    refine ⟨_, e1, ty_list h1, ?_⟩
    refine tO_bind G (fun es s1 l ys H1 e2 G1 x1 nl hl' r2 => ?_) (fun c s1 H1 e2 G1 x1 => by rw [e2] at q; exact q A σ H1 G1 (Fr.of_ext x1 G.dfA)) (fun e2 => by rw [e2] at q; exact q)
    rw [e2, Res.bindS_ok] at q
    by_cases hl : lineOk (ds.length + es.length) = true
    · rw [if_pos hl] at q
      obtain ⟨G2, f2⟩ := G1.setOwn e0 e1 ((G.rps r1 x1).append (r2.av fun a z => .inl (.inl z)))
      refine ⟨p, l, xs, ys, rfl, rfl, x1.keep _ _ h1 hd, hl', ?_, q A σ _ G2 (fr_step x1 G.dfA f2)⟩
      rw [r1.len, r2.len]; exact lineOk_le hl
    · rw [if_neg hl] at q; exact q.elim
  · exact q.elim
theorem pm_ext {i : Nat} {x : Str} {p1 p2 p3 : Pos} {t : TE} (hx : PE X (.Name x p1) (tVar i)) (ha : PE X e t) (hbase : attributeBase (.Name x p1) "extend" X.env (eval (.Name x p1) X.env) = eval (.Name x p1) X.env := by rfl)
    (hfew : ((backTo p3 (starEach [e] X.env)).all (fun x => !x.1) && (backToKw p3 (keywordEach [] X.env)).all (fun x => x.1.isSome)
      && decide ([e].length + ([] : List Keyword).length + (if ([] : List Keyword).isEmpty then 0 else 1) < 30)) = true := by rfl)
    (hline : (p2.endLine == p3.line) = true := by rfl) (hs : starEach [e] X.env = (false, eval e X.env) :: starEach [] X.env := by rfl) :
    PE X (.Call (.Attribute (.Name x p1) "extend" p2) [e] [] p3) (tBM X.K "list" rExtend (tVar i) (tCons t tNil)) :=
  pe_bm PySem.F.plainAttrs_list PySem.F.slot_list_extend PySem.F.type_list_extend mt_extend hx (pa_cons ha pa_nil hs) hbase hfew hline hs (by rfl)
end
end Cw

namespace Cw
open PySem PySem.Spec PyProof.Rows L2
/-! ### what is walked -/
/-- J walks ds, while what does not stand in A is kept -/
structure ItD (K : Fg) (A : Addr → Prop) (J : It) (ds : List D) (Hi : Hp) : Prop where
  goes : ∀ (i : Nat) (H : Hp), i < ds.length → Ext A Hi H → J.go i H
  stops : ∀ (H : Hp), Ext A Hi H → J.stop ds.length H
  yields : ∀ (i : Nat) (H : Hp) (x : V) (H' : Hp) (d : D), ds[i]? = some d → Ext A Hi H → J.yld i H x H' → Same H H' ∧ ∀ A' : Addr → Prop, (∀ a, A' a → A a ∨ Hi a = none) → Rp K H' A' x d
mutual
theorem Rp.move {K : Fg} {H H' : Hp} {A A' : Addr → Prop} (e : Ext A H H') (hA : ∀ a, A' a → A a ∨ H a = none) : ∀ {v : V} {d : D}, Rp K H A v d → Rp K H' A' v d
  | _, _, .non => .non
  | _, _, .bl b => .bl b
  | _, _, .int i => .int i
  | _, _, .str x => .str x
  | _, _, .lst h n r => .lst (e.keep _ _ h n) (fun z => (hA _ z).elim n fun q => by rw [q] at h; cases h) (RpAll.move e hA r)
  | _, _, .tup h r => .tup (e.sqT h) (RpAll.move e hA r)
theorem RpAll.move {K : Fg} {H H' : Hp} {A A' : Addr → Prop} (e : Ext A H H') (hA : ∀ a, A' a → A a ∨ H a = none) : ∀ {vs : List V} {ds : List D}, RpAll K H A vs ds → RpAll K H' A' vs ds
  | _, _, .nil => .nil
  | _, _, .cons h r => .cons (Rp.move e hA h) (RpAll.move e hA r)
end
section
variable (K : Fg) (mg : Str → Option Value)
def ResI (wd : Wd) (A0 A : Addr → Prop) (H0 : Hp) (ρ : En) (σ : St) (H : Hp) (W : WX) (R : It → Hp → Prop) : Res (List D) → Prop
  | .ok ds s' => ∀ J H', Good K mg wd A0 A H0 ρ s' σ H' → Ext wd.df H H' → ItD K A J ds H' → R J H'
  | .exc c s' => ∀ H', Good K mg wd A0 A H0 ρ s' σ H' → Ext wd.df H H' → W (xv mg c) none σ H'
  | .bad => False
def tI (f : Sem1 (List D)) (W : WX) : TI := fun σ H R => ∃ wd A0 A H0 ρ s, Good K mg wd A0 A H0 ρ s σ H ∧ ResI K mg wd A0 A H0 ρ σ H W R (f ρ s)
end
abbrev EvI (X : Cx) (W : WX) (tg e : Expr) (f : Sem1 (List D)) : Prop := PI X tg e (tI X.K X.mg f W)
section
variable {X : Cx} {W : WX}
theorem _root_.L2.PI.imp {tg e : Expr} {t t' : TI} (h : PI X tg e t) (i : ∀ σ H Q, t' σ H Q → t σ H Q) : PI X tg e t' := ⟨fun pins s σ H Q I q => h.run pins s σ H Q I (i σ H Q q)⟩
theorem tI_bind {K : Fg} {mg : Str → Option Value} {wd : Wd} {A0 A : Addr → Prop} {H0 H : Hp} {ρ : En} {s : Dk} {σ : St} {f : Sem1 (List D)} {Q : It → Hp → Prop} (G : Good K mg wd A0 A H0 ρ s σ H)
    (hok : ∀ ds s' J H', f ρ s = .ok ds s' → Good K mg wd A0 A H0 ρ s' σ H' → Ext wd.df H H' → ItD K A J ds H' → Q J H')
    (hexc : ∀ c s' H', f ρ s = .exc c s' → Good K mg wd A0 A H0 ρ s' σ H' → Ext wd.df H H' → W (xv mg c) none σ H') (hbad : f ρ s = .bad → False) : tI K mg f W σ H Q := by
  refine ⟨wd, A0, A, H0, ρ, s, G, ?_⟩
  cases e : f ρ s with
  | ok d s' => exact fun J H' => hok d s' J H' e
  | exc c s' => exact fun H' => hexc c s' H' e
  | bad => exact hbad e

/-! ### for -/
def forL (g : SemG) (fb : SemS) : List D → SemS
  | [] => fun ρ s => .nx ρ s
  | d :: ds => fun ρ s => match g d ρ with
    | none => .bad
    | some ρ1 => match fb ρ1 s with
      | .nx ρ2 s2 => forL g fb ds ρ2 s2
      | .ct ρ2 s2 => forL g fb ds ρ2 s2
      | .bk ρ2 s2 => .nx ρ2 s2
      | r => r
def sFor (fi : Sem1 (List D)) (g : SemG) (fb : SemS) : SemS := fun ρ s => (fi ρ s).bindS ρ fun ds s1 => forL g fb ds ρ s1
theorem drop_cons {α : Type} {l : List α} {i : Nat} (h : i < l.length) : l.drop i = l[i] :: l.drop (i + 1) := List.drop_eq_getElem_cons h
theorem es_for {tg iter : Expr} {body : List Stmt} {fi : Sem1 (List D)} {g : SemG} {ws : List Nat} {fb : SemS} {pos : Pos} (hp : PassesOwn (model X.prog X.w) X.A X.env X.xe) (hc : X.calm = true) (hi : EvI X W tg iter fi) (hg : EvG X tg g ws) (hb : EvB X W body fb)
    (hs : ∀ x, foldedSetIterable iter X.env x = pure x := by intro _; rfl) : EvS X W (.For tg iter body [] pos) (sFor fi g fb) := by
  refine (ps_for hp hc hi hg hb hs).imp fun D σ H q => ?_
  obtain ⟨wd, A0, A, H0, ρ, s, G, q⟩ := q
  unfold sFor at q
  refine tI_bind G (fun ds s1 J H1 e1 G1 x1 it => ?_) (fun c s1 H1 e1 G1 x1 => by rw [e1] at q; exact q A σ H1 G1 (Fr.of_ext x1 G.dfA)) (fun e1 => by rw [e1] at q; exact q)
  rw [e1, Res.bindS_ok] at q
  have q := q.from (Fr.of_ext x1 G.dfA)
  refine ⟨fun i m σ' H' => m = ds.length - i ∧ i ≤ ds.length ∧ ∃ A' ρ' s', Good X.K X.mg wd A0 A' H0 ρ' s' σ' H' ∧ Fr A H1 A' H' ∧ RSok X.K X.mg W wd A0 H0 A' H' D (forL g fb (ds.drop i) ρ' s'),
    ⟨_, rfl, Nat.zero_le _, A, ρ, s1, G1, Fr.refl, by rw [List.drop_zero]; exact q⟩, ?_⟩
  rintro i m σ2 H2 ⟨rfl, hi', A2, ρ2, s2, G2, f2, q2⟩
  by_cases hlt : i < ds.length
  · right
    refine ⟨it.goes i H2 hlt f2.ext, fun σ' H' => ∃ A' ρ' s', Good X.K X.mg wd A0 A' H0 ρ' s' σ' H' ∧ Fr A H1 A' H' ∧ RSok X.K X.mg W wd A0 H0 A' H' D (forL g fb (ds.drop (i + 1)) ρ' s'), fun σ' H' h => ⟨ds.length - (i + 1), by omega, rfl, hlt, h⟩, fun x H3 y => ?_⟩
    obtain ⟨sm, rp⟩ := it.yields i H2 x H3 ds[i] (List.getElem?_eq_getElem hlt) f2.ext y
    have r3 := rp A2 f2.av
    rw [drop_cons hlt] at q2
    unfold forL at q2
    have G3 := G2.same sm
    have fr3 : Fr A2 H2 A2 H3 := Fr.of_ext (B := fun _ => False) (Ext.same sm) fun _ z => z.elim
    refine ⟨wd, A0, A2, H0, ρ2, s2, ds[i], G3, r3, ?_⟩
    cases e3 : g ds[i] ρ2 with
    | none => simp only [e3] at q2; exact q2
    | some ρ3 =>
      simp only [e3] at q2
      intro σ3 G4 _
      refine ⟨wd, A0, A2, H0, ρ3, s2, G4, ?_⟩
      cases e4 : fb ρ3 s2 with
      | nx ρ5 s5 =>
        simp only [e4] at q2
        exact fun A5 σ5 H5 G5 f5 => ⟨A5, ρ5, s5, G5, f2.trans (fr3.trans f5), q2.from (fr3.trans f5)⟩
      | ct ρ5 s5 =>
        simp only [e4] at q2
        exact fun A5 σ5 H5 G5 f5 => ⟨A5, ρ5, s5, G5, f2.trans (fr3.trans f5), q2.from (fr3.trans f5)⟩
      | bk ρ5 s5 =>
        simp only [e4] at q2
        exact fun A5 σ5 H5 G5 f5 => q2 A5 σ5 H5 G5 (fr3.trans f5)
      | rt d s5 => simp only [e4] at q2; exact q2
      | exc c ρ5 s5 =>
        simp only [e4] at q2
        exact fun A5 σ5 H5 G5 f5 => q2 A5 σ5 H5 G5 (fr3.trans f5)
      | bad => simp only [e4] at q2; exact q2
  · left
    have e : i = ds.length := by omega
    subst e
    rw [List.drop_length] at q2
    exact ⟨it.stops H2 f2.ext, q2 A2 σ2 H2 G2 Fr.refl⟩

/-! ### while -/
def whL (ft : Sem1 Bool) (fb : SemS) : Nat → SemS
  | 0 => fun _ _ => .bad
  | n + 1 => fun ρ s => (ft ρ s).bindS ρ fun b s1 => if b = true then (match fb ρ s1 with
    | .nx ρ2 s2 => whL ft fb n ρ2 s2
    | .ct ρ2 s2 => whL ft fb n ρ2 s2
    | .bk ρ2 s2 => .nx ρ2 s2
    | r => r) else .nx ρ s1
/-- n: more turns than there are -/
theorem es_while {c : Expr} {body : List Stmt} {ft : Sem1 Bool} {fb : SemS} {pos : Pos} (n : Nat) (hp : PassesOwn (model X.prog X.w) X.A X.env X.xe) (hc : EvT X W c ft) (hb : EvB X W body fb) : EvS X W (.While c body [] pos) (whL ft fb n) := by
  refine (ps_while hp hc hb).imp fun D σ H q => ?_
  obtain ⟨wd, A0, A, H0, ρ, s, G, q⟩ := q
  refine ⟨fun m σ' H' => ∃ A' ρ' s', Good X.K X.mg wd A0 A' H0 ρ' s' σ' H' ∧ RSok X.K X.mg W wd A0 H0 A' H' D (whL ft fb m ρ' s'), ⟨n, A, ρ, s, G, q⟩, ?_⟩
  rintro m σ2 H2 ⟨A2, ρ2, s2, G2, q2⟩
  cases m with
  | zero => exact q2.elim
  | succ m =>
    unfold whL at q2
    refine tT_bind G2 (fun b s3 H3 e3 G3 x3 => ?_) (fun c s1 H1 e1 G1 x1 => by rw [e1] at q2; exact q2 A2 σ2 H1 G1 (Fr.of_ext x1 G2.dfA)) (fun e1 => by rw [e1] at q2; exact q2)
    rw [e3, Res.bindS_ok] at q2
    have fr3 : Fr A2 H2 A2 H3 := Fr.of_ext x3 G2.dfA
    cases b with
    | false =>
      rw [if_neg (by decide)] at q2 ⊢
      exact q2 A2 σ2 H3 G3 fr3
    | true =>
      rw [if_pos rfl] at q2 ⊢
      refine ⟨fun σ' H' => ∃ A' ρ' s', Good X.K X.mg wd A0 A' H0 ρ' s' σ' H' ∧ RSok X.K X.mg W wd A0 H0 A' H' D (whL ft fb m ρ' s'), fun σ' H' h => ⟨m, Nat.lt_succ_self m, h⟩, ?_⟩
      refine ⟨wd, A0, A2, H0, ρ2, s3, G3, ?_⟩
      cases e4 : fb ρ2 s3 with
      | nx ρ5 s5 =>
        simp only [e4] at q2
        exact fun A5 σ5 H5 G5 f5 => ⟨A5, ρ5, s5, G5, q2.from (fr3.trans f5)⟩
      | ct ρ5 s5 =>
        simp only [e4] at q2
        exact fun A5 σ5 H5 G5 f5 => ⟨A5, ρ5, s5, G5, q2.from (fr3.trans f5)⟩
      | bk ρ5 s5 =>
        simp only [e4] at q2
        exact fun A5 σ5 H5 G5 f5 => q2 A5 σ5 H5 G5 (fr3.trans f5)
      | rt d s5 => simp only [e4] at q2; exact q2
      | exc c ρ5 s5 =>
        simp only [e4] at q2
        exact fun A5 σ5 H5 G5 f5 => q2 A5 σ5 H5 G5 (fr3.trans f5)
      | bad => simp only [e4] at q2; exact q2

/-! ### sources -/
/-- a list, a tuple, a text: its items -/
def itemsD : D → Option (List D)
  | .list ds => some ds
  | .tuple ds => some ds
  | .str x => some (x.cps.toList.map fun c => .str ⟨#[c]⟩)
  | _ => none
def fItems (fe : Sem1 D) : Sem1 (List D) := fun ρ s => (fe ρ s).bind fun d s1 => .lift (itemsD d) s1
theorem itd_list {K : Fg} {A : Addr → Prop} {a : Addr} {xs : List V} {ds : List D} {H : Hp} (hs : ∀ H', Ext A H H' → SqL K H' a xs) (r : RpAll K H A xs ds) : ItD K A (Itl K a) ds H where
  goes := fun i H' hi e => ⟨xs, xs[i]'(by rw [r.len]; exact hi), hs H' e, List.getElem?_eq_getElem _⟩
  stops := fun H' e => ⟨xs, hs H' e, by rw [r.len]; exact Nat.le_refl _⟩
  yields := fun i H' x H2 d hd e y => by
    obtain ⟨rfl, y⟩ := y
    obtain ⟨v, h1, h2⟩ := r.get hd
    have := y xs (hs _ e)
    rw [h1] at this; cases this
    exact ⟨fun _ _ h => h, fun A' hA => h2.move e hA⟩
theorem itd_tup {K : Fg} {A : Addr → Prop} {a : Addr} {xs : List V} {ds : List D} {H : Hp} (hs : ∀ H', Ext A H H' → SqT K H' a xs) (r : RpAll K H A xs ds) : ItD K A (Itt K a) ds H where
  goes := fun i H' hi e => ⟨xs, xs[i]'(by rw [r.len]; exact hi), hs H' e, List.getElem?_eq_getElem _⟩
  stops := fun H' e => ⟨xs, hs H' e, by rw [r.len]; exact Nat.le_refl _⟩
  yields := fun i H' x H2 d hd e y => by
    obtain ⟨rfl, y⟩ := y
    obtain ⟨v, h1, h2⟩ := r.get hd
    have := y xs (hs _ e)
    rw [h1] at this; cases this
    exact ⟨fun _ _ h => h, fun A' hA => h2.move e hA⟩
theorem itd_str {K : Fg} {A : Addr → Prop} {z : Str} {H : Hp} : ItD K A (Its z) (z.cps.toList.map fun c => .str ⟨#[c]⟩) H where
  goes := fun i H' hi e => by show i < z.cps.size; simpa using hi
  stops := fun H' e => by show z.cps.size ≤ _; simp
  yields := fun i H' x H2 d hd e y => by
    obtain ⟨rfl, c, hc, rfl⟩ := y
    refine ⟨fun _ _ h => h, fun A' hA => ?_⟩
    rw [List.getElem?_map] at hd
    have : z.cps.toList[i]? = some c := by simpa using hc
    rw [this] at hd
    cases hd
    exact .str _
theorem itd_range {K : Fg} {A : Addr → Prop} {lo : Int} {n : Nat} {H : Hp} : ItD K A (Itr lo n) ((List.range n).map fun (i : Nat) => PyData.int (lo + i)) H where
  goes := fun i H' hi e => by show i < n; simpa using hi
  stops := fun H' e => by show n ≤ _; simp
  yields := fun i H' x H2 d hd e y => by
    obtain ⟨rfl, rfl⟩ := y
    refine ⟨fun _ _ h => h, fun A' hA => ?_⟩
    rw [List.getElem?_map] at hd
    by_cases h : i < n
    · rw [List.getElem?_range h] at hd
      cases hd
      exact .int _
    · rw [List.getElem?_eq_none (by simpa using h)] at hd; cases hd
theorem rp_listE {K : Fg} {H : Hp} {A : Addr → Prop} {v : V} {ds : List D} (h : Rp K H A v (.list ds)) : ∃ a xs, v = .ref a ∧ (∀ H', Ext A H H' → SqL K H' a xs) ∧ RpAll K H A xs ds := by
  cases h with
  | lst h n r => exact ⟨_, _, rfl, fun H' e => .inl (.inl (e.keep _ _ h n)), r⟩
/-- the items of a list, a tuple, a text -/
theorem ei_items {tg e : Expr} {fe : Sem1 D} (h : EvE X W e fe) : EvI X W tg e (fItems fe) := by
  refine ⟨fun pins s σ H R I q => ?_⟩
  obtain ⟨wd, A0, A, H0, ρ, t, G, q⟩ := q
  unfold fItems at q
  have hr : tE X.K X.mg fe W σ H fun v H1 => ∃ d ds t1, itemsD d = some ds ∧ Rp X.K H1 A v d ∧ Good X.K X.mg wd A0 A H0 ρ t1 σ H1 ∧ ∀ J, ItD X.K A J ds H1 → R J H1 := by
    refine tE_bind G (fun d s1 v H1 e1 G1 x1 r1 => ?_) (fun c s1 H1 e1 G1 x1 => by rw [e1] at q; exact q H1 G1 x1) (fun e1 => by rw [e1] at q; exact q)
    rw [e1, Res.bind_ok] at q
    cases e2 : itemsD d with
    | none => rw [e2] at q; exact q.elim
    | some ds =>
      rw [e2] at q
      exact ⟨d, ds, s1, e2, r1, G1, fun J it => q J H1 G1 x1 it⟩
  refine thn (h.run pins s σ H _ I hr) fun v s1 ⟨y, H1, I1, r1, d, ds, t1, e2, rp, G1, q1⟩ => ?_
  cases d with
  | list es =>
    cases e2
    obtain ⟨a, xs, rfl, hs, rx⟩ := rp_listE rp
    cases r1
    obtain ⟨its, rv, p, hz⟩ := I1.list (hs H1 Ext.refl)
    refine wpAny_pyIter_list p.isList ?_
    refine ⟨s1.heap.objs.size, [s1.heap.objs.size], _, _, H1, rfl, I1.kept (t' := s1.toks) fun b o e => Heap.get?_push_of_some _ e, turn_list a _, ⟨_, Heap.get?_push_size _ rfl, rfl, rfl⟩, fun b hb => ?_, q1 _ (itd_list hs rx)⟩
    have e : b = s1.heap.objs.size := by simpa using hb
    subst e
    exact I1.fpOk (Nat.le_refl _) (I1.hok.fresh (Nat.le_refl _))
  | tuple es =>
    cases e2
    obtain ⟨a, xs, rfl, ht, rx⟩ := rp.tuple
    cases r1
    obtain ⟨its, rv, p, hz⟩ := I1.tuple ht
    refine wpAny_pyIter_tuple (show s1.heap.IsTuple a its.toArray from p) ?_
    refine ⟨s1.heap.objs.size, [s1.heap.objs.size], _, _, H1, rfl, I1.kept (t' := s1.toks) fun b o e => Heap.get?_push_of_some _ e, turn_tuple a _, ⟨_, Heap.get?_push_size _ rfl, rfl, rfl⟩, fun b hb => ?_, q1 _ (itd_tup (fun H' e => e.sqT ht) rx)⟩
    have e : b = s1.heap.objs.size := by simpa using hb
    subst e
    exact I1.fpOk (Nat.le_refl _) (I1.hok.fresh (Nat.le_refl _))
  | str z =>
    cases e2
    cases rp_str rp
    obtain ⟨t, rfl⟩ := r1
    cases ha : z.cps.all (· < 128)
    · exact wpAny_pyIter_wide ha (pi_one (tk := s1.toks) I1 _ (turn_str _ z t "str_iterator" (.inr rfl)) ⟨_, Heap.get?_push_size _ rfl, rfl, rfl⟩ (q1 _ itd_str))
    · exact wpAny_pyIter_ascii ha (pi_one (tk := s1.toks) I1 _ (turn_str _ z t "str_ascii_iterator" (.inl rfl)) ⟨_, Heap.get?_push_size _ rfl, rfl, rfl⟩ (q1 _ itd_str))
  | _ => cases e2
/-- range(n), range(a, b) -/
def intOk (i : Int) : Bool := decide (-(2 ^ 62) ≤ i) && decide (i < 2 ^ 62)
def fRange1 (fl : Sem1 (List D)) : Sem1 (List D) := fun ρ s => (fl ρ s).bind fun xs s1 => match xs with
  | [.int n] => if intOk n = true then .ok ((List.range n.toNat).map fun (i : Nat) => PyData.int (0 + i)) s1 else .bad
  | _ => .bad
def fRange2 (fl : Sem1 (List D)) : Sem1 (List D) := fun ρ s => (fl ρ s).bind fun xs s1 => match xs with
  | [.int a, .int b] => if (intOk a && intOk b) = true then .ok ((List.range (b - a).toNat).map fun (i : Nat) => PyData.int (a + i)) s1 else .bad
  | _ => .bad
theorem intOk_of {i : Int} (h : intOk i = true) : -(2 ^ 62) ≤ i ∧ i < 2 ^ 62 := by
  unfold intOk at h
  rw [Bool.and_eq_true] at h
  exact ⟨of_decide_eq_true h.1, of_decide_eq_true h.2⟩
theorem ei_range1 {tg a : Expr} {fl : Sem1 (List D)} {p pos : Pos} (hg : Gl X "range") (hm : X.mg "range" = none) (ha : EvL X W [a] fl) (hs : starEach [a] X.env = [(false, eval a X.env)] := by rfl) : EvI X W tg (.Call (.Name "range" p) [a] [] pos) (fRange1 fl) := by
  refine (pi_range1 hg hm ha hs).imp fun σ H R q => ?_
  obtain ⟨wd, A0, A, H0, ρ, s, G, q⟩ := q
  unfold fRange1 at q
  refine tL_bind G (fun xs s1 v H1 e1 G1 x1 r1 => ?_) (fun c s1 H1 e1 G1 x1 => by rw [e1] at q; exact q H1 G1 x1) (fun e1 => by rw [e1] at q; exact q)
  rw [e1, Res.bind_ok] at q
  split at q
  · rename_i n
    cases r1 with
    | cons h r =>
      cases r
      cases rp_int h
      by_cases hk : intOk n = true
      · rw [if_pos hk] at q
        exact ⟨n, rfl, (intOk_of hk).1, (intOk_of hk).2, q _ H1 G1 x1 itd_range⟩
      · rw [if_neg hk] at q; exact q.elim
  · exact q.elim
theorem ei_range2 {tg a b : Expr} {fl : Sem1 (List D)} {p pos : Pos} (hg : Gl X "range") (hm : X.mg "range" = none) (ha : EvL X W [a, b] fl) (hs : starEach [a, b] X.env = [(false, eval a X.env), (false, eval b X.env)] := by rfl) (hs2 : starEach [b] X.env = [(false, eval b X.env)] := by rfl) :
    EvI X W tg (.Call (.Name "range" p) [a, b] [] pos) (fRange2 fl) := by
  refine (pi_range2 hg hm ha hs hs2).imp fun σ H R q => ?_
  obtain ⟨wd, A0, A, H0, ρ, s, G, q⟩ := q
  unfold fRange2 at q
  refine tL_bind G (fun xs s1 v H1 e1 G1 x1 r1 => ?_) (fun c s1 H1 e1 G1 x1 => by rw [e1] at q; exact q H1 G1 x1) (fun e1 => by rw [e1] at q; exact q)
  rw [e1, Res.bind_ok] at q
  split at q
  · rename_i i j
    cases r1 with
    | cons h r =>
      cases r with
      | cons h' r =>
        cases r
        cases rp_int h
        cases rp_int h'
        by_cases hk : (intOk i && intOk j) = true
        · rw [if_pos hk] at q
          rw [Bool.and_eq_true] at hk
          exact ⟨i, j, rfl, ⟨(intOk_of hk.1).1, (intOk_of hk.1).2, (intOk_of hk.2).1, (intOk_of hk.2).2⟩, q _ H1 G1 x1 itd_range⟩
        · rw [if_neg hk] at q; exact q.elim
  · exact q.elim
end
end Cw

namespace Cw
open PySem PySem.Spec PyProof.Rows L2
/-! ### comprehensions -/
abbrev WF : WX := fun _ _ _ _ => False
def wipeE (ρ : En) : List Nat → En
  | [] => ρ
  | v :: vs => (wipeE ρ vs).set v .un
theorem wipeE_length (ρ : En) : ∀ vs : List Nat, (wipeE ρ vs).length = ρ.length
  | [] => rfl
  | v :: vs => by unfold wipeE; rw [List.length_set, wipeE_length ρ vs]
theorem wipeE_get {ρ : En} {i : Nat} {x : SV} : ∀ {vs : List Nat}, (wipeE ρ vs)[i]? = some x → x = .un ∨ (i ∉ vs ∧ ρ[i]? = some x)
  | [], h => .inr ⟨by simp, h⟩
  | v :: vs, h => by
    unfold wipeE at h
    rcases get_set h with ⟨_, h, _⟩ | ⟨hi, h⟩
    · exact .inl h
    · rcases wipeE_get h with h | ⟨h1, h2⟩
      · exact .inl h
      · exact .inr ⟨by simp only [List.mem_cons, not_or]; exact ⟨hi, h1⟩, h2⟩
theorem wipe_in {σ : St} {i : Nat} : ∀ {vs : List Nat}, i ∈ vs → i < σ.length → (wipe σ vs)[i]? = some none
  | v :: vs, h, hl => by
    unfold wipe
    by_cases e : v = i
    · subst e
      exact List.getElem?_set_self (by rw [wipe_length]; exact hl)
    · rw [List.getElem?_set_ne e]
      exact wipe_in ((List.mem_cons.mp h).resolve_left fun z => e z.symm) hl
theorem wipe_same {σ σ' : St} {vs ws : List Nat} (o : OnlyAt ws (wipe σ vs) σ') (h : ∀ i ∈ ws, i ∈ vs) : wipe σ' vs = wipe σ vs := by
  have hl : σ'.length = σ.length := by rw [o.1, wipe_length]
  apply List.ext_getElem?
  intro i
  by_cases hi : i ∈ vs
  · by_cases hlt : i < σ.length
    · rw [wipe_in hi hlt, wipe_in hi (by rw [hl]; exact hlt)]
    · rw [List.getElem?_eq_none (by rw [wipe_length, hl]; omega), List.getElem?_eq_none (by rw [wipe_length]; omega)]
  · rw [wipe_out hi, o.2 i fun z => hi (h i z)]
section
variable {K : Fg} {mg : Str → Option Value} {wd : Wd} {A0 A : Addr → Prop} {H0 H H' : Hp} {ρ : En} {s s' : Dk} {σ : St}
theorem Good.wipe (G : Good K mg wd A0 A H0 ρ s σ H) (vs : List Nat) : Good K mg wd A0 A H0 (wipeE ρ vs) s (L2.wipe σ vs) H where
  len := by rw [wipeE_length, wipe_length]; exact G.len
  slot := fun i sv q => by
    rcases wipeE_get q with rfl | ⟨h1, h2⟩
    · trivial
    · rw [wipe_out h1]; exact G.slot i sv h2
  dis := fun i j o u a hij h1 h2 h3 h4 => by
    rcases wipeE_get h1 with z | ⟨n1, h1⟩
    · cases z
    · rcases wipeE_get h2 with z | ⟨n2, h2⟩
      · cases z
      · rw [wipe_out n1] at h3
        rw [wipe_out n2] at h4
        exact G.dis i j o u a hij h1 h2 h3 h4
  own0 := fun i o a h1 h3 => by
    rcases wipeE_get h1 with z | ⟨n1, h1⟩
    · cases z
    · rw [wipe_out n1] at h3
      exact G.own0 i o a h1 h3
  a0 := G.a0
  a0h := G.a0h
  ah := G.ah
  df0 := G.df0
  deck := G.deck
  ext := G.ext
/-- a new object at p is avoided from now on -/
theorem Good.guard {p : Addr} {o : HO} (G : Good K mg wd A0 A H0 ρ s σ H) (np : H p = none) : Good K mg wd A0 (fun a => A a ∨ a = p) H0 ρ s σ (upd H p o) := by
  have sm : Same H (upd H p o) := new_same np
  have G' := G.same sm
  have up : ∀ a, (A a ∨ a = p) → A a ∨ H a = none := fun a z => z.elim .inl fun z => .inr (by rw [z]; exact np)
  refine ⟨G.len, fun i sv q => ?_, G.dis, G.own0, fun a z => .inl (G.a0 a z), G.a0h, fun a z => z.elim (G'.ah a) fun z => ⟨o, by rw [z]; exact upd_same⟩, G.df0, G'.deck, G'.ext⟩
  have h := G.slot i sv q
  cases sv with
  | un => trivial
  | va d => obtain ⟨v, h1, h2⟩ := h; exact ⟨v, h1, (h2.av up).same sm⟩
  | ow u =>
    obtain ⟨a, h1, h2, h3, h4⟩ := h
    obtain ⟨w, q5, _⟩ := h4.there
    exact ⟨a, h1, .inl h2, h3, (h4.av up).ext (B := fun _ => False) (Ext.same sm) (fun _ z => z.elim) (by rw [q5]; exact sm _ _ q5)⟩
  | dk => exact h
  | fv n => exact h
  | sc n => obtain ⟨a, q1, q2⟩ := h; exact ⟨a, q1, q2.ext (B := fun _ => False) (Ext.same sm)⟩
/-- the guarded object has changed -/
theorem Good.guarded {p : Addr} {o u : HO} (G : Good K mg wd A0 A H0 ρ s σ H) (hA : A p) (n0 : H0 p = none) (nd : ¬ wd.df p) (nown : ∀ (i : Nat) (o : OV), ρ[i]? = some (.ow o) → σ[i]? = some (some (.ref p)) → False) (hp : H p = some o) (mu : Mut (some o)) : Good K mg wd A0 A H0 ρ s σ (upd H p u) := by
  have ext : Ext (fun a => a = p) H (upd H p u) := ⟨fun a o q n => by rw [upd_ne n]; exact q, fun a ys q => by
      rw [upd_ne (fun z => by rw [z, hp] at q; cases q; exact mu)]; exact q, fun a ob w q => by
      rw [upd_ne (fun z => by rw [z, hp] at q; cases q; exact mu)]; exact q, fun a o q => by
      by_cases z : a = p
      · exact ⟨_, by rw [z]; exact upd_same⟩
      · exact ⟨o, by rw [upd_ne z]; exact q⟩⟩
  have inA : ∀ a, a = p → A a := fun a z => by rw [z]; exact hA
  refine ⟨G.len, fun i sv q => ?_, G.dis, G.own0, G.a0, G.a0h, fun a z => let ⟨o, q⟩ := G.ah a z; ext.there a o q, G.df0, wd.fr s H _ G.deck fun a z => upd_ne fun q => nd (by rw [← q]; exact z), ?_⟩
  · have h := G.slot i sv q
    cases sv with
    | un => trivial
    | va d => obtain ⟨v, h1, h2⟩ := h; exact ⟨v, h1, h2.ext ext inA⟩
    | ow w =>
      obtain ⟨a, h1, h2, h3, h4⟩ := h
      exact ⟨a, h1, h2, h3, h4.ext ext inA (upd_ne fun z => nown i w q (by rw [h1, z]))⟩
    | dk => exact h
    | fv n => exact h
    | sc n => obtain ⟨a, q1, q2⟩ := h; exact ⟨a, q1, q2.ext ext⟩
  · refine ⟨fun a o q n => ?_, fun a ys q => ext.tups a ys (G.ext.tups a ys q), fun a ob w q => ext.frzs a ob w (G.ext.frzs a ob w q), fun a o q => let ⟨o', q'⟩ := G.ext.there a o q; ext.there a o' q'⟩
    exact ext.keep a o (G.ext.keep a o q n) fun z => by rw [z, n0] at q; cases q
end

theorem Ext.updNew {B : Addr → Prop} {H H' : Hp} {p : Addr} {o : HO} (e : Ext B H H') (np : H p = none) : Ext B H (upd H' p o) where
  keep := fun a u q n => by rw [upd_ne (ne_of_none q np)]; exact e.keep a u q n
  tups := fun a u q => by rw [upd_ne (ne_of_none q np)]; exact e.tups a u q
  frzs := fun a u v q => by rw [upd_ne (ne_of_none q np)]; exact e.frzs a u v q
  there := fun a u q => by rw [upd_ne (ne_of_none q np)]; exact e.there a u q
/-- a test of a clause -/
abbrev EvC (X : Cx) (ifs : List Expr) (ft : Sem1 Bool) : Prop := PTs X ifs (tT X.K X.mg ft WF)
def fYes : Sem1 Bool := fun _ s => .ok true s
def lcL (g : SemG) (ft : Sem1 Bool) (fe : Sem1 D) (ρ : En) : List D → Dk → Res (List D)
  | [], s => .ok [] s
  | d :: ds, s => match g d ρ with
    | none => .bad
    | some ρ1 => match ft ρ1 s with
      | .ok true s1 => match fe ρ1 s1 with
        | .ok y s2 => (lcL g ft fe ρ ds s2).bind fun ys s3 => .ok (y :: ys) s3
        | _ => .bad
      | .ok false s1 => lcL g ft fe ρ ds s1
      | _ => .bad
def fLc (fi : Sem1 (List D)) (g : SemG) (ft : Sem1 Bool) (fe : Sem1 D) (vs : List Nat) : Sem1 (List D) := fun ρ s => (fi ρ s).bind fun ds s1 => if lineOk ds.length = true then lcL g ft fe (wipeE ρ vs) ds s1 else .bad
section
variable {X : Cx} {W : WX}
theorem ec_nil {X : Cx} : EvC X [] fYes := ⟨fun pins s σ H Q I h => by
  obtain ⟨wd, A0, A, H0, ρ, t, G, q⟩ := h
  exact pts_nil.run pins s σ H Q I (q H G Ext.refl)⟩
theorem ec_one {X : Cx} {c : Expr} {ft : Sem1 Bool} (h : EvT X WF c ft) : EvC X [c] ft := pts_one h
theorem no_exc {P : Prop} {K : Fg} {mg : Str → Option Value} {wd : Wd} {A0 A : Addr → Prop} {H0 H : Hp} {ρ : En} {σ : St} {c : Str} {s : Dk} (h : P) : P := h
theorem tO_lc {fi : Sem1 (List D)} {g : SemG} {ws : List Nat} {ft : Sem1 Bool} {fe : Sem1 D} {vs : List Nat} {K : Fg} {mg : Str → Option Value} {σ : St} {H : Hp} {Q : VK} (hw : ∀ i ∈ ws, i ∈ vs)
    (q : tO K mg (fLc fi g ft fe vs) W σ H Q) : tLc (tI K mg fi W) (tG K mg g ws) (tT K mg ft WF) (tE K mg fe WF) vs σ H Q := by
  obtain ⟨wd, A0, A, H0, ρ, s, G, q⟩ := q
  unfold fLc at q
  refine tI_bind G (fun ds s1 J H1 e1 G1 x1 it => ?_) (fun c s1 H1 e1 G1 x1 => by rw [e1] at q; exact q H1 G1 x1) (fun e1 => by rw [e1] at q; exact q)
  rw [e1, Res.bind_ok] at q
  by_cases hl : lineOk ds.length = true
  · rw [if_pos hl] at q
    intro p np
    have np0 : H p = none := by
      cases z : H p with
      | none => rfl
      | some o =>
        obtain ⟨o', z'⟩ := x1.there p o z
        rw [np] at z'; cases z'
    have n0 : H0 p = none := by
      cases z : H0 p with
      | none => rfl
      | some o =>
        obtain ⟨o', z'⟩ := G.ext.there p o z
        rw [np0] at z'; cases z'
    have nd : ¬ wd.df p := fun z => by
      obtain ⟨o, z'⟩ := G1.ah p (G1.dfA p z)
      rw [np] at z'; cases z'
    have nA : ¬ A p := fun z => by
      obtain ⟨o, z'⟩ := G1.ah p z
      rw [np] at z'; cases z'
    -- own objects stand elsewhere
    have nown : ∀ {ρ' : En} {σ' : St} {s' : Dk} {H' : Hp} {A' : Addr → Prop}, (∀ (i : Nat) (o : OV), ρ'[i]? = some (.ow o) → ρ[i]? = some (.ow o) ∧ σ'[i]? = σ[i]?) → ∀ (i : Nat) (o : OV), ρ'[i]? = some (.ow o) → σ'[i]? = some (some (.ref p)) → False := fun {ρ' σ' s' H' A'} hh i o h1 h2 => by
      obtain ⟨h3, h4⟩ := hh i o h1
      obtain ⟨a, h5, h6, _⟩ := G1.slot i _ h3
      rw [h4, h5] at h2
      cases h2
      exact nA h6
    refine ⟨fun i m H' => m = ds.length - i ∧ i ≤ ds.length ∧ ∃ s' acc ads, Good K mg wd A0 (fun a => A a ∨ a = p) H0 (wipeE ρ vs) s' (L2.wipe σ vs) H' ∧ H' p = some (.lst acc) ∧ RpAll K H' (fun a => A a ∨ a = p) acc ads ∧ acc.length ≤ i ∧ Ext wd.df H1 H' ∧
      ResO K mg wd A0 A H0 ρ σ H W Q ((lcL g ft fe (wipeE ρ vs) (ds.drop i) s').bind fun ys s3 => .ok (ads ++ ys) s3),
      ⟨_, rfl, Nat.zero_le _, s1, [], [], (G1.guard np).wipe vs, upd_same, .nil, Nat.le_refl _, Ext.same (new_same np), ?_⟩, ?_⟩
    · rw [List.drop_zero]
      have : ((lcL g ft fe (wipeE ρ vs) ds s1).bind fun ys s3 => Res.ok ([] ++ ys) s3) = lcL g ft fe (wipeE ρ vs) ds s1 := by
        cases lcL g ft fe (wipeE ρ vs) ds s1 <;> rfl
      rw [this]; exact q
    · rintro i m H2 ⟨rfl, hi, s2, acc, ads, G2, hp2, r2, hacc, x2, q2⟩
      have x2A : Ext A H1 H2 := x2.mono G1.dfA
      by_cases hlt : i < ds.length
      · right
        refine ⟨it.goes i H2 hlt x2A, fun H' => ∃ s' acc ads, Good K mg wd A0 (fun a => A a ∨ a = p) H0 (wipeE ρ vs) s' (L2.wipe σ vs) H' ∧ H' p = some (.lst acc) ∧ RpAll K H' (fun a => A a ∨ a = p) acc ads ∧ acc.length ≤ i + 1 ∧ Ext wd.df H1 H' ∧
          ResO K mg wd A0 A H0 ρ σ H W Q ((lcL g ft fe (wipeE ρ vs) (ds.drop (i + 1)) s').bind fun ys s3 => .ok (ads ++ ys) s3), fun H' h => ⟨ds.length - (i + 1), by omega, rfl, hlt, h⟩, fun x H3 y => ?_⟩
        obtain ⟨sm, rp⟩ := it.yields i H2 x H3 ds[i] (List.getElem?_eq_getElem hlt) x2A y
        have r3 := rp (fun a => A a ∨ a = p) fun a z => z.elim .inl fun z => .inr (by rw [z]; exact np)
        have G3 := G2.same sm
        have x3 : Ext wd.df H1 H3 := x2.trans (Ext.same sm)
        rw [drop_cons hlt] at q2
        unfold lcL at q2
        refine ⟨wd, A0, _, H0, _, s2, ds[i], G3, r3, ?_⟩
        cases e3 : g ds[i] (wipeE ρ vs) with
        | none => simp only [e3] at q2; exact q2
        | some ρ3 =>
          simp only [e3] at q2
          intro σ3 G4 only
          refine ⟨wipe_same only hw, ?_⟩
          refine tT_bind G4 (fun b s4 H4 e4 G5 x4 => ?_) (fun c s4 H4 e4 G5 x4 => by simp only [e4] at q2; exact q2) (fun e4 => by simp only [e4] at q2; exact q2)
          have hp4 : H4 p = some (.lst acc) := x4.keep _ _ (sm _ _ hp2) nd
          have rep4 : Good K mg wd A0 (fun a => A a ∨ a = p) H0 (wipeE ρ vs) s4 (L2.wipe σ vs) H4 := G3.step x4 G5.deck
          have r4 := (r2.same sm).ext x4 fun a z => .inl (G1.dfA a z)
          cases b with
          | false =>
            simp only [e4] at q2
            rw [if_neg (by decide)]
            exact ⟨s4, acc, ads, rep4, hp4, r4, Nat.le_succ_of_le hacc, x3.trans x4, q2⟩
          | true =>
            simp only [e4] at q2
            rw [if_pos rfl]
            refine tE_bind G5 (fun yd s5 y' H5 e5 G6 x5 r5 => ?_) (fun c s4 H4 e4 G5 x4 => by simp only [e4] at q2; exact q2) (fun e4 => by simp only [e4] at q2; exact q2)
            simp only [e5] at q2
            have hp5 : H5 p = some (.lst acc) := x5.keep _ _ hp4 nd
            have rep5 : Good K mg wd A0 (fun a => A a ∨ a = p) H0 (wipeE ρ vs) s5 (L2.wipe σ vs) H5 := rep4.step x5 G6.deck
            have r6 := (r4.ext x5 fun a z => .inl (G1.dfA a z)).append (.cons r5 .nil)
            refine ⟨acc, hp5, Nat.lt_of_le_of_lt hacc (Nat.lt_of_lt_of_le hlt (lineOk_le hl)), s5, acc ++ [y'], ads ++ [yd], ?_, upd_same, ?_, by simp; omega, ?_, ?_⟩
            · refine rep5.guarded (.inr rfl) n0 nd (nown (s' := s5) (H' := H5) (A' := A) fun i o h => ?_) hp5 trivial
              rcases wipeE_get h with z | ⟨z1, z2⟩
              · cases z
              · exact ⟨z2, wipe_out z1⟩
            · refine r6.ext (B := fun a => a = p) ⟨fun a o q n => by rw [upd_ne n]; exact q, fun a ys q => by rw [upd_ne (fun z => by rw [z, hp5] at q; cases q)]; exact q, fun a ob w q => by rw [upd_ne (fun z => by rw [z, hp5] at q; cases q)]; exact q, fun a o q => ?_⟩ fun a z => .inr z
              by_cases z : a = p
              · exact ⟨_, by rw [z]; exact upd_same⟩
              · exact ⟨o, by rw [upd_ne z]; exact q⟩
            · exact (x3.trans (x4.trans x5)).updNew np
            · cases e6 : lcL g ft fe (wipeE ρ vs) (List.drop (i + 1) ds) s5 with
              | ok ys s6 =>
                rw [e6] at q2
                simp only [Res.bind_ok] at q2 ⊢
                rw [List.append_assoc]
                exact q2
              | exc c s6 => rw [e6] at q2; exact q2
              | bad => rw [e6] at q2; exact q2
      · left
        have e : i = ds.length := by omega
        subst e
        rw [List.drop_length] at q2
        refine ⟨it.stops H2 x2A, ?_⟩
        simp only [lcL, Res.bind_ok, List.append_nil] at q2
        exact q2 p acc H2 (G1.step x2 G2.deck) (x1.trans x2) np0 hp2 r2
  · rw [if_neg hl] at q; exact q.elim
/-- [elt for tg in iter if ..] -/
theorem eo_lc {elt tg iter : Expr} {ifs : List Expr} {scope : Scope} {own : List (Str × Nat)} {pos : Pos} {fi : Sem1 (List D)} {g : SemG} {ws : List Nat} {ft : Sem1 Bool} {fe : Sem1 D} (hc : X.calm = true) (hN : X.N.Nodup) (hi : EvI X W tg iter fi) (ok : BlkOk X.N X.env.scope scope own)
    (hg : ∀ (s : Shared) (H : Hp) (C : Addr) (cl : List (Str × Addr)) (fp : List Addr), EvG (X.blk s H scope (compEnvC scope cl C X.env) fp) tg g ws) (ht : ∀ (s : Shared) (H : Hp) (C : Addr) (cl : List (Str × Addr)) (fp : List Addr), EvC (X.blk s H scope (compEnvC scope cl C X.env) fp) ifs ft)
    (he : ∀ (s : Shared) (H : Hp) (C : Addr) (cl : List (Str × Addr)) (fp : List Addr), EvE (X.blk s H scope (compEnvC scope cl C X.env) fp) WF elt fe) (hs : ∀ x, foldedSetIterable iter X.env x = pure x := by intro _; rfl) (hw : ∀ i ∈ ws, i ∈ own.map (·.2) := by decide) :
    EvO X W (.ListComp elt [⟨tg, iter, ifs, 0⟩] scope pos) (fLc fi g ft fe (own.map (·.2))) :=
  (pe_lc hc hN hi ok hg ht he hs).imp fun σ H Q q => tO_lc hw q
theorem tAsgO_of {K : Fg} {mg : Str → Option Value} {fl : Sem1 (List D)} {i : Nat} {D : Ends} {σ : St} {H : Hp} (q : tS K mg (sOwn i fl) W D σ H) : tAsg (tO K mg fl W) (gName i) D σ H := by
  obtain ⟨wd, A0, A, H0, ρ, s, G, q⟩ := q
  unfold sOwn at q
  refine tO_bind G (fun ds s1 p xs H' e1 G' x1 np hp r => ?_) (fun c s1 H1 e1 G1 x1 => by rw [e1] at q; exact q A σ H1 G1 (Fr.of_ext x1 G.dfA)) (fun e1 => by rw [e1] at q; exact q)
  rw [e1] at q
  exact q _ _ H' (G.own G' x1 np hp r) ⟨x1.mono G.dfA, fun a z => z.elim .inl fun z => .inr (by rw [z]; exact np)⟩
/-- a fresh list as a shared value in a slot -/
theorem tAsgL_of {K : Fg} {mg : Str → Option Value} {fl : Sem1 (List D)} {i : Nat} {D : Ends} {σ : St} {H : Hp} (q : tS K mg (sAsg (fLst fl) (gVar i)) W D σ H) : tAsg (tO K mg fl W) (gName i) D σ H := by
  have h := tName_of q
  obtain ⟨wd, A0, A, H0, ρ, s, G, h⟩ := h
  unfold fLst at h
  refine tO_bind G (fun ds s1 p xs H' e1 G' x1 np hp r => ?_) (fun c s1 H1 e1 G1 x1 => by rw [e1] at h; exact h H1 G1 x1) (fun e1 => by rw [e1] at h; exact h)
  rw [e1] at h
  exact h _ H' G' x1 (.lst hp (fun z => by
      obtain ⟨o, z⟩ := G.ah _ z
      rw [np] at z; cases z) (r.av fun a z => .inl (.inl z)))
/-- name = [..] on one line, the name a local: as its own, or shared -/
theorem es_setLcO {i : Nat} {y : Str} {py : Pos} {elt tg iter : Expr} {ifs : List Expr} {scope : Scope} {own : List (Str × Nat)} {pos spos : Pos} {fi : Sem1 (List D)} {g : SemG} {ws : List Nat} {ft : Sem1 Bool} {fe : Sem1 D} (hc : X.calm = true) (hN : X.N.Nodup) (hy : X.N[i]? = some y) (hyl : X.env.scope.names.lookup y = some .local)
    (hsw : swapsWith (.ListComp elt [⟨tg, iter, ifs, 0⟩] scope pos) (some (.Name y py)) spos.line X.env = pure true) (hi : EvI X W tg iter fi) (ok : BlkOk X.N X.env.scope scope own)
    (hg : ∀ (s : Shared) (H : Hp) (C : Addr) (cl : List (Str × Addr)) (fp : List Addr), EvG (X.blk s H scope (compEnvC scope cl C X.env) fp) tg g ws) (ht : ∀ (s : Shared) (H : Hp) (C : Addr) (cl : List (Str × Addr)) (fp : List Addr), EvC (X.blk s H scope (compEnvC scope cl C X.env) fp) ifs ft)
    (he : ∀ (s : Shared) (H : Hp) (C : Addr) (cl : List (Str × Addr)) (fp : List Addr), EvE (X.blk s H scope (compEnvC scope cl C X.env) fp) WF elt fe) (hs : ∀ x, foldedSetIterable iter X.env x = pure x := by intro _; rfl) (hw : ∀ i ∈ ws, i ∈ own.map (·.2) := by decide) :
    EvS X W (.Assign [.Name y py] (.ListComp elt [⟨tg, iter, ifs, 0⟩] scope pos) spos) (sOwn i (fLc fi g ft fe (own.map (·.2)))) :=
  (ps_setLc hc hN hy hyl hsw hi ok hg ht he hs).imp fun D σ H q => by
    have h := tAsgO_of q
    exact tO_lc hw h
theorem es_setLc {i : Nat} {y : Str} {py : Pos} {elt tg iter : Expr} {ifs : List Expr} {scope : Scope} {own : List (Str × Nat)} {pos spos : Pos} {fi : Sem1 (List D)} {g : SemG} {ws : List Nat} {ft : Sem1 Bool} {fe : Sem1 D} (hc : X.calm = true) (hN : X.N.Nodup) (hy : X.N[i]? = some y) (hyl : X.env.scope.names.lookup y = some .local)
    (hsw : swapsWith (.ListComp elt [⟨tg, iter, ifs, 0⟩] scope pos) (some (.Name y py)) spos.line X.env = pure true) (hi : EvI X W tg iter fi) (ok : BlkOk X.N X.env.scope scope own)
    (hg : ∀ (s : Shared) (H : Hp) (C : Addr) (cl : List (Str × Addr)) (fp : List Addr), EvG (X.blk s H scope (compEnvC scope cl C X.env) fp) tg g ws) (ht : ∀ (s : Shared) (H : Hp) (C : Addr) (cl : List (Str × Addr)) (fp : List Addr), EvC (X.blk s H scope (compEnvC scope cl C X.env) fp) ifs ft)
    (he : ∀ (s : Shared) (H : Hp) (C : Addr) (cl : List (Str × Addr)) (fp : List Addr), EvE (X.blk s H scope (compEnvC scope cl C X.env) fp) WF elt fe) (hs : ∀ x, foldedSetIterable iter X.env x = pure x := by intro _; rfl) (hw : ∀ i ∈ ws, i ∈ own.map (·.2) := by decide) :
    EvS X W (.Assign [.Name y py] (.ListComp elt [⟨tg, iter, ifs, 0⟩] scope pos) spos) (sAsg (fLst (fLc fi g ft fe (own.map (·.2)))) (gVar i)) :=
  (ps_setLc hc hN hy hyl hsw hi ok hg ht he hs).imp fun D σ H q => by
    have h := tAsgL_of q
    exact tO_lc hw h
end

/-! ### defs of the text, called -/
/-- the promise: m of the arguments -/
def spF (K : Fg) (mg : Str → Option Value) (m : List SV → Dk → Res D) : Sp := fun vs H Q E => ∃ (wd : Wd) (A0 : Addr → Prop) (svs : List SV) (s : Dk), (∀ a, A0 a → ∃ o, H a = some o) ∧ (∀ a, wd.df a → A0 a) ∧ wd.rep s H ∧ ArgAll K mg wd A0 H svs vs ∧
  match m svs s with
  | .ok d s' => ∀ v H', Ext wd.df H H' → wd.rep s' H' → Rp K H' A0 v d → Q v H'
  | .exc c s' => ∀ H', Ext wd.df H H' → wd.rep s' H' → E (xv mg c) none H'
  | .bad => False
structure FnR (P : Program) (w : World) (K : Fg) (mg : Str → Option Value) (base : Heap) (x : Str) (st : Stmt) (k : Nat) (ps : List Str) (m : List SV → Dk → Res D) (f : Addr) (fd : FuncData) : Prop where
  fn : Fun K x x st f fd
  at_ : mg x = some (.ref f)
  ok : FnOk P w K mg base (L2.CX P w) k f fd ps (spF K mg m)
  bd : Binds K fd ps []
def fCall (m : List SV → Dk → Res D) (fs : Sem1 (List SV)) : Sem1 D := fun ρ s => (fs ρ s).bind fun xs s1 => m xs s1
section
variable {X : Cx} {W : WX}
theorem ev_call {x : Str} {st : Stmt} {k : Nat} {ps : List Str} {m : List SV → Dk → Res D} {f : Addr} {fd : FuncData} {e : Expr} {es : List Expr} {fs : Sem1 (List SV)} {p pos : Pos} (F : FnR X.prog X.w X.K X.mg X.base x st k ps m f fd) (hr : Room k X.A) (hg : Gl X x) (tk : Takes X W) (ha : EvA X W (e :: es) fs)
    (hdb : (x == ("__debug__" : Str)) = false := by decide) (he : starEach (e :: es) X.env = (false, eval e X.env) :: starEach es X.env := by rfl) (hpl : (backTo pos (starEach es X.env)).any (·.1) = false := by rfl) : EvE X W (.Call (.Name x p) (e :: es) [] pos) (fCall m fs) := by
  refine (pe_callS F.ok hr hg F.at_ F.fn.kp F.bd (fun σ => passAt tk σ) ha hdb he hpl).imp fun σ H Q q => ?_
  obtain ⟨wd, A0, A, H0, ρ, s, G, q⟩ := q
  unfold fCall at q
  refine tA_bind G (fun svs s1 vs H1 e1 G1 x1 r1 => ?_) (fun c s1 H1 e1 G1 x1 => by rw [e1] at q; exact q H1 G1 x1) (fun e1 => by rw [e1] at q; exact q)
  rw [e1, Res.bind_ok] at q
  refine ⟨wd, A, svs, s1, G1.ah, G1.dfA, G1.deck, r1, ?_⟩
  cases e2 : m svs s1 with
  | ok d s2 =>
    rw [e2] at q
    exact fun v H2 x2 rep r2 => q v H2 (G1.step x2 rep) (x1.trans x2) r2
  | exc c s2 =>
    rw [e2] at q
    exact fun H2 x2 rep => q H2 (G1.step x2 rep) (x1.trans x2)
  | bad => rw [e2] at q; exact q
end
/-- what a body makes of its arguments: n parameters, k further names -/
def mBody (n k : Nat) (fb : SemS) : List SV → Dk → Res D := fun svs s => if svs.length = n then (match fb (svs ++ List.replicate k .un) s with
  | .rt d s1 => .ok d s1
  | .nx _ s1 => .ok .none s1
  | .exc c _ s1 => .exc c s1
  | _ => .bad) else .bad
theorem argAll_get {K : Fg} {mg : Str → Option Value} {wd : Wd} {A : Addr → Prop} {H : Hp} : ∀ {svs : List SV} {vs : List V} {i : Nat} {sv : SV}, ArgAll K mg wd A H svs vs → svs[i]? = some sv → ∃ v, vs[i]? = some v ∧ ArgOk K mg wd A H sv v
  | _, _, _, _, .nil, e => by simp at e
  | _, _, 0, _, .cons h _, e => by simp at e; subst e; exact ⟨_, rfl, h⟩
  | _, _, i + 1, sv, .cons _ r, e => by
    obtain ⟨v, h1, h2⟩ := argAll_get (i := i) (sv := sv) r (by simpa using e)
    exact ⟨v, by simpa using h1, h2⟩
theorem good_start {K : Fg} {mg : Str → Option Value} {wd : Wd} {A0 : Addr → Prop} {H : Hp} {svs : List SV} {vs : List V} {s : Dk} {N : List Str} (a0h : ∀ a, A0 a → ∃ o, H a = some o) (df0 : ∀ a, wd.df a → A0 a) (rep : wd.rep s H) (r : ArgAll K mg wd A0 H svs vs) (hl : vs.length ≤ N.length) :
    Good K mg wd A0 A0 H (svs ++ List.replicate (N.length - vs.length) .un) s (start N vs) H where
  len := by
    unfold L2.start
    rw [List.length_append, List.length_append, List.length_replicate, List.length_replicate, List.length_map, Paired.length r]
  slot := fun i sv q => by
    unfold L2.start
    by_cases h : i < svs.length
    · rw [List.getElem?_append_left h] at q
      obtain ⟨v, h1, h2⟩ := argAll_get r q
      have e : (vs.map some ++ List.replicate (N.length - vs.length) none)[i]? = some (some v) := by
        rw [List.getElem?_append_left (by rw [List.length_map, ← Paired.length r]; exact h), List.getElem?_map, h1]; rfl
      rw [e]
      cases sv with
      | un => trivial
      | va d => exact ⟨v, rfl, h2⟩
      | ow o => exact h2.elim
      | dk k => exact ⟨h2.1, by rw [show v = wd.dv from h2.2]⟩
      | fv n => obtain ⟨f, h3, h4⟩ := h2; subst h3; exact ⟨f, rfl, h4⟩
      | sc n => obtain ⟨f, h3, h4⟩ := h2; subst h3; exact ⟨f, rfl, h4⟩
    · rw [List.getElem?_append_right (by omega)] at q
      have : sv = .un := (List.mem_replicate.mp (List.mem_of_getElem? q)).2
      subst this
      trivial
  dis := fun i j o u a _ h1 => by
    exfalso
    by_cases h : i < svs.length
    · rw [List.getElem?_append_left h] at h1
      obtain ⟨v, _, h2⟩ := argAll_get r h1
      exact h2
    · rw [List.getElem?_append_right (by omega)] at h1
      have : SV.ow o = .un := (List.mem_replicate.mp (List.mem_of_getElem? h1)).2
      cases this
  own0 := fun i o a h1 => by
    exfalso
    by_cases h : i < svs.length
    · rw [List.getElem?_append_left h] at h1
      obtain ⟨v, _, h2⟩ := argAll_get r h1
      exact h2
    · rw [List.getElem?_append_right (by omega)] at h1
      have : SV.ow o = .un := (List.mem_replicate.mp (List.mem_of_getElem? h1)).2
      cases this
  a0 := fun _ h => h
  a0h := a0h
  ah := a0h
  df0 := df0
  deck := rep
  ext := Ext.refl
abbrev WB (E : XK) : WX := fun cls d _ H => E cls d H
/-- a def of the text keeps the promise of its body -/
theorem fn_ok {P : Program} {w : World} {K : Fg} {mg : Str → Option Value} {base : Heap} {x : Str} {st : Stmt} {f : Addr} {fd : FuncData} {N ps : List Str} {k : Nat} {fb : SemS} (F : Fun K x x st f fd) (S : FnScope N ps (defScope st)) (hn : ps.length ≤ N.length)
    (hbody : ∀ (cdv : Value) (A : Around) (outer : List Env) (s : Shared) (H : Hp) (E : XK), Room k (A.deeper (envOfC x (defScope st) s.heap.objs.size f cdv)) →
      EvB (cxOf (L2.CX P w) P w K mg base N x (defScope st) f cdv A outer s H E) (WB E) (defBody st) fb) : FnOk P w K mg base (L2.CX P w) (k + 1) f fd ps (spF K mg (mBody ps.length (N.length - ps.length) fb)) := by
  refine F.okX S (fun vs H Q E h => ?_) (fun cdv A outer s H vs Q E hr h => ⟨_, hbody cdv A outer s H E hr, ?_⟩)
  · obtain ⟨wd, A0, svs, s, h1, h2, h3, h4, h5⟩ := h
    rw [← Paired.length h4]
    unfold mBody at h5
    by_cases hl : svs.length = ps.length
    · exact hl
    · rw [if_neg hl] at h5; exact h5.elim
  · obtain ⟨wd, A0, svs, t, h1, h2, h3, h4, h5⟩ := h
    unfold mBody at h5
    by_cases hl : svs.length = ps.length
    · rw [if_pos hl] at h5
      have hv : vs.length = ps.length := by rw [← Paired.length h4]; exact hl
      have G := good_start (N := N) h1 h2 h3 h4 (by omega)
      rw [hv] at G
      refine ⟨wd, A0, A0, H, _, t, G, ?_⟩
      show RSok K mg (WB E) wd A0 H A0 H _ (fb _ t)
      cases e : fb (svs ++ List.replicate (N.length - ps.length) .un) t with
      | nx ρ s1 => rw [e] at h5; exact fun A' σ' H' G' _ => h5 .non H' G'.ext G'.deck .non
      | rt d s1 => rw [e] at h5; exact fun v H' rep x r => h5 v H' x rep r
      | exc c ρ s1 => rw [e] at h5; exact fun A' σ' H' G' _ => h5 H' G'.ext G'.deck
      | bk ρ s1 => rw [e] at h5; exact h5.elim
      | ct ρ s1 => rw [e] at h5; exact h5.elim
      | bad => rw [e] at h5; exact h5.elim
    · rw [if_neg hl] at h5; exact h5.elim

/-! ### raise -/
def sRaise (c : Str) : SemS := fun ρ s => .exc c ρ s
theorem es_raise {X : Cx} {W : WX} {x m : Str} {j : Nat} {p p1 p2 pos : Pos} {C : Addr} {bmB : List Value} {B newId initId : String} (hc : X.calm = true) (tk : Takes X W) (F : ExcBaseFacts B newId initId bmB) (q : PySem.W.excIn X.K C bmB newId = true) (gC : X.mg x = some (.ref C)) (kC : PySem.W.keepIn X.K (.ref C) = true) (r : Raises X (.ref C)) (hg : Gl X x)
    (hdb : (x == ("__debug__" : Str)) = false := by decide) : EvS X W (.Raise (some (.Call (.Name x p) [.Constant (.str m) j p2] [] p1)) none pos) (sRaise x) := by
  refine (ps_raise hc tk (pmk_own F q gC kC r hg hdb)).imp fun D σ H q => ?_
  obtain ⟨wd, A0, A, H0, ρ, s, G, q⟩ := q
  have h := q A σ H G Fr.refl
  unfold xv at h
  rw [gC] at h
  exact h
end Cw

namespace Cw
open PySem PySem.Spec PyProof.Rows L2
section
variable {X : Cx}
theorem rp_all_same {K : Fg} {H : Hp} {A : Addr → Prop} {v : V} {d : D} (r : Rp K H A v d) : Rp K H A v d := r

/-! ### arithmetic -/
def wideI (i : Int) : Bool := decide (i.natAbs < 2 ^ 4000)
theorem wide_log {i : Int} (h : wideI i = true) : i.natAbs.log2 < 4000 := by
  have h : i.natAbs < 2 ^ 4000 := of_decide_eq_true h
  exact PySem.Flt.log2_lt_of (by decide) h
/-- t + u at an address: what a tuple's sum leaves -/
theorem rp_new_tup {K : Fg} {H : Hp} {A : Addr → Prop} {p : Addr} {xs : List V} {ds : List D} (hp : H p = none) (r : RpAll K H A xs ds) : Rp K (upd H p (.tup xs)) A (.ref p) (.tuple ds) := .tup (.inl (.inl upd_same)) (r.same (new_same hp))
theorem rp_new_lst {K : Fg} {H : Hp} {A : Addr → Prop} {p : Addr} {xs : List V} {ds : List D} (ah : ∀ a, A a → ∃ o, H a = some o) (hp : H p = none) (r : RpAll K H A xs ds) : Rp K (upd H p (.lst xs)) A (.ref p) (.list ds) := .lst upd_same (fun z => by
  obtain ⟨o, q⟩ := ah p z
  rw [hp] at q; cases q) (r.same (new_same hp))
def gAdd (d e : D) : Option D := match d, e with
  | .int a, .int b => some (.int (a + b))
  | .str a, .str b => if lineOk (a.length + b.length) = true then some (.str (a ++ b)) else none
  | .tuple a, .tuple b => if lineOk (a.length + b.length) = true then some (.tuple (a ++ b)) else none
  | .list a, .list b => if lineOk (a.length + b.length) = true then some (.list (a ++ b)) else none
  | _, _ => none
theorem od_add : OpR X (binaryOp .Add) (rD X.K gAdd) := by
  intro pins s σ H x y v u Q I rx ry h
  obtain ⟨A, d, e, r, ah, r1, r2, hg, q⟩ := h
  unfold gAdd at hg
  split at hg
  · rename_i a b
    cases hg
    cases rp_int r1
    cases rp_int r2
    exact op_add pins s σ H _ _ v u Q I rx ry ⟨a, b, rfl, rfl, q _ H (Same.refl H) (.int _)⟩
  · rename_i a b
    by_cases hl : lineOk (a.length + b.length) = true
    · rw [if_pos hl] at hg
      cases hg
      cases rp_str r1
      cases rp_str r2
      exact op_add_str pins s σ H _ _ v u Q I rx ry ⟨a, b, rfl, rfl, lineOk_le hl, q _ H (Same.refl H) (.str _)⟩
    · rw [if_neg hl] at hg; cases hg
  · rename_i a b
    by_cases hl : lineOk (a.length + b.length) = true
    · rw [if_pos hl] at hg
      cases hg
      obtain ⟨p, xs, rfl, h1, h2⟩ := r1.tuple
      obtain ⟨p', ys, rfl, h3, h4⟩ := r2.tuple
      refine op_catA pins s σ H _ _ v u Q I rx ry ⟨p, p', xs, ys, rfl, rfl, h1, h3, by rw [h2.len, h4.len]; exact lineOk_le hl, fun z => ?_, fun _ z => ?_, fun _ _ t ht => ?_⟩
      · subst z
        cases h2
        exact q _ H (Same.refl H) r2
      · subst z
        cases h4
        rw [List.append_nil] at q
        exact q _ H (Same.refl H) r1
      · exact q _ _ (new_same ht) (rp_new_tup ht (h2.append h4))
    · rw [if_neg hl] at hg; cases hg
  · rename_i a b
    by_cases hl : lineOk (a.length + b.length) = true
    · rw [if_pos hl] at hg
      cases hg
      obtain ⟨p, xs, rfl, h1, h2⟩ := r1.list
      obtain ⟨p', ys, rfl, h3, h4⟩ := r2.list
      exact op_cat pins s σ H _ _ v u Q I rx ry ⟨p, p', xs, ys, rfl, rfl, h1, h3, by rw [h2.len, h4.len]; exact lineOk_le hl, fun t ht => q _ _ (new_same ht) (rp_new_lst ah ht (h2.append h4))⟩
    · rw [if_neg hl] at hg; cases hg
  · cases hg
def gSub (d e : D) : Option D := match d, e with
  | .int a, .int b => some (.int (a - b))
  | _, _ => none
theorem od_sub : OpR X (binaryOp .Sub) (rD X.K gSub) := by
  intro pins s σ H x y v u Q I rx ry h
  obtain ⟨A, d, e, r, ah, r1, r2, hg, q⟩ := h
  unfold gSub at hg
  split at hg
  · cases hg
    cases rp_int r1
    cases rp_int r2
    exact op_sub pins s σ H _ _ v u Q I rx ry ⟨_, _, rfl, rfl, q _ H (Same.refl H) (.int _)⟩
  · cases hg
def gMul (d e : D) : Option D := match d, e with
  | .int a, .int b => if (wideI a && wideI b) = true then some (.int (a * b)) else none
  | .tuple a, .int k => if (!a.isEmpty && decide (2 ≤ k) && decide (k ≤ 1000) && decide (a.length ≤ 1000)) = true then some (.tuple (List.replicate k.toNat a).flatten) else none
  | .list a, .int k => if (intOk k && lineOk (a.length * k.toNat)) = true then some (.list (List.replicate k.toNat a).flatten) else none
  | _, _ => none
theorem od_mul : OpR X (binaryOp .Mult) (rD X.K gMul) := by
  intro pins s σ H x y v u Q I rx ry h
  obtain ⟨A, d, e, r, ah, r1, r2, hg, q⟩ := h
  unfold gMul at hg
  split at hg
  · rename_i a b
    by_cases hl : (wideI a && wideI b) = true
    · rw [if_pos hl] at hg
      cases hg
      cases rp_int r1
      cases rp_int r2
      rw [Bool.and_eq_true] at hl
      have h1 := wide_log hl.1
      have h2 := wide_log hl.2
      exact op_mulW pins s σ H _ _ v u Q I rx ry ⟨a, b, rfl, rfl, by show _ + _ < _; omega, q _ H (Same.refl H) (.int _)⟩
    · rw [if_neg hl] at hg; cases hg
  · rename_i a k
    by_cases hl : (!a.isEmpty && decide (2 ≤ k) && decide (k ≤ 1000) && decide (a.length ≤ 1000)) = true
    · rw [if_pos hl] at hg
      cases hg
      simp only [Bool.and_eq_true, decide_eq_true_eq] at hl
      obtain ⟨⟨⟨l1, l2⟩, l3⟩, l4⟩ := hl
      obtain ⟨p, xs, rfl, h1, h2⟩ := r1.tuple
      cases rp_int r2
      refine op_repT pins s σ H _ _ v u Q I rx ry ⟨p, k, xs, rfl, rfl, h1, fun z => ?_, l2, l3, by rw [h2.len]; exact l4, fun t ht => q _ _ (new_same ht) (rp_new_tup ht (h2.rep _))⟩
      subst z
      cases h2
      simp at l1
    · rw [if_neg hl] at hg; cases hg
  · rename_i a k
    by_cases hl : (intOk k && lineOk (a.length * k.toNat)) = true
    · rw [if_pos hl] at hg
      cases hg
      rw [Bool.and_eq_true] at hl
      obtain ⟨p, xs, rfl, h1, h2⟩ := r1.list
      cases rp_int r2
      have := intOk_of hl.1
      exact op_rep pins s σ H _ _ v u Q I rx ry ⟨p, k, xs, rfl, rfl, h1, by omega, by omega, by rw [h2.len]; exact lineOk_le hl.2, fun t ht => q _ _ (new_same ht) (rp_new_lst ah ht (h2.rep _))⟩
    · rw [if_neg hl] at hg; cases hg
  · cases hg
def gDiv (d e : D) : Option D := match d, e with
  | .int a, .int b => if (decide (0 < b) && wideI b) = true then some (.int (a / b)) else none
  | _, _ => none
theorem od_div : OpR X (binaryOp .FloorDiv) (rD X.K gDiv) := by
  intro pins s σ H x y v u Q I rx ry h
  obtain ⟨A, d, e, r, ah, r1, r2, hg, q⟩ := h
  unfold gDiv at hg
  split at hg
  · rename_i a b
    by_cases hl : (decide (0 < b) && wideI b) = true
    · rw [if_pos hl] at hg
      cases hg
      cases rp_int r1
      cases rp_int r2
      rw [Bool.and_eq_true] at hl
      have h2 := wide_log hl.2
      exact op_fdivW pins s σ H _ _ v u Q I rx ry ⟨a, b, rfl, rfl, ⟨of_decide_eq_true hl.1, by omega⟩, q _ H (Same.refl H) (.int _)⟩
    · rw [if_neg hl] at hg; cases hg
  · cases hg
def gMod (d e : D) : Option D := match d, e with
  | .int a, .int b => if decide (0 < b) = true then some (.int (a % b)) else none
  | _, _ => none
theorem od_mod : OpR X (binaryOp .Mod) (rD X.K gMod) := by
  intro pins s σ H x y v u Q I rx ry h
  obtain ⟨A, d, e, r, ah, r1, r2, hg, q⟩ := h
  unfold gMod at hg
  split at hg
  · rename_i a b
    by_cases hl : decide (0 < b) = true
    · rw [if_pos hl] at hg
      cases hg
      cases rp_int r1
      cases rp_int r2
      exact op_mod pins s σ H _ _ v u Q I rx ry ⟨a, b, rfl, rfl, of_decide_eq_true hl, q _ H (Same.refl H) (.int _)⟩
    · rw [if_neg hl] at hg; cases hg
  · cases hg
def gPow (d e : D) : Option D := match d, e with
  | .int a, .int b => if (decide (0 ≤ b) && decide (b ≤ 1000) && decide (a.natAbs < 2 ^ 64)) = true then some (.int (a ^ b.toNat)) else none
  | _, _ => none
theorem od_pow : OpR X (binaryOp .Pow) (rD X.K gPow) := by
  intro pins s σ H x y v u Q I rx ry h
  obtain ⟨A, d, e, r, ah, r1, r2, hg, q⟩ := h
  unfold gPow at hg
  split at hg
  · rename_i a b
    by_cases hl : (decide (0 ≤ b) && decide (b ≤ 1000) && decide (a.natAbs < 2 ^ 64)) = true
    · rw [if_pos hl] at hg
      cases hg
      simp only [Bool.and_eq_true, decide_eq_true_eq] at hl
      cases rp_int r1
      cases rp_int r2
      exact op_pow pins s σ H _ _ v u Q I rx ry ⟨a, b, rfl, rfl, ⟨hl.1.1, by omega, hl.2⟩, q _ H (Same.refl H) (.int _)⟩
    · rw [if_neg hl] at hg; cases hg
  · cases hg
def gNeg (d : D) : Option D := match d with
  | .int a => some (.int (-a))
  | _ => none
theorem ud_neg : UnR X (unaryOp .USub) (rU X.K gNeg) := by
  intro pins s σ H x v Q I rx h
  obtain ⟨A, d, r, ah, r1, hg, q⟩ := h
  unfold gNeg at hg
  split at hg
  · cases hg
    cases rp_int r1
    exact un_neg pins s σ H _ v Q I rx ⟨_, rfl, q _ H (Same.refl H) (.int _)⟩
  · cases hg

/-! ### comparisons -/
def shal (d e : D) : Bool := decide (min d.depth e.depth ≤ 60)
def gEq (d e : D) : Option D := if (d.plain && e.plain && shal d e) = true then some (.bool (PyData.eqv d e)) else none
def gNe (d e : D) : Option D := if (d.plain && e.plain && shal d e) = true then some (.bool (!PyData.eqv d e)) else none
theorem Rp.reads {K : Fg} {A : Addr → Prop} {X : Cx} {pins : List (Addr × Obj)} {σ : St} {H : Hp} {s : Shared} {d : D} {v : V} {u : Value} (I : Inv X pins σ H s) (h : Rp X.K H A v d) (r : RelV v u) : ∃ as, Reads s.heap u d as := Dp.reads I d v u h.dp r
theorem od_eq (hu : X.A.units + 64 < cLine) : OpR X (compareOp .Eq) (rD X.K gEq) := by
  intro pins s σ H x y v u Q I rx ry h
  obtain ⟨A, d, e, r, ah, r1, r2, hg, q⟩ := h
  unfold gEq at hg
  by_cases hl : (d.plain && e.plain && shal d e) = true
  · rw [if_pos hl] at hg
    cases hg
    simp only [Bool.and_eq_true] at hl
    obtain ⟨as, q1⟩ := Rp.reads (K := X.K) I r1 rx
    obtain ⟨bs, q2⟩ := Rp.reads (K := X.K) I r2 ry
    have hs : min d.depth e.depth ≤ 60 := of_decide_eq_true hl.2
    exact PySem.SeqAt.eq_plain q1 q2 hl.1.1 hl.1.2 (by omega) ⟨.bl _, H, I, rfl, q _ H (Same.refl H) (.bl _)⟩
  · rw [if_neg hl] at hg; cases hg
theorem od_ne (hu : X.A.units + 64 < cLine) : OpR X (compareOp .NotEq) (rD X.K gNe) := by
  intro pins s σ H x y v u Q I rx ry h
  obtain ⟨A, d, e, r, ah, r1, r2, hg, q⟩ := h
  unfold gNe at hg
  by_cases hl : (d.plain && e.plain && shal d e) = true
  · rw [if_pos hl] at hg
    cases hg
    simp only [Bool.and_eq_true] at hl
    obtain ⟨as, q1⟩ := Rp.reads (K := X.K) I r1 rx
    obtain ⟨bs, q2⟩ := Rp.reads (K := X.K) I r2 ry
    have hs : min d.depth e.depth ≤ 60 := of_decide_eq_true hl.2
    exact PySem.SeqAt.ne_plain q1 q2 hl.1.1 hl.1.2 (by omega) ⟨.bl _, H, I, rfl, q _ H (Same.refl H) (.bl _)⟩
  · rw [if_neg hl] at hg; cases hg
def isNon : D → Bool
  | .none => true
  | _ => false
/-- a < b: of ints, or of what is alike place by place -/
def ordOk (d e : D) : Bool := PySem.W.alike d e && !isNon d && shal d e
theorem ordOk_of {d e : D} (h : ordOk d e = true) : PySem.W.alike d e = true ∧ d ≠ .none ∧ min d.depth e.depth ≤ 60 := by
  unfold ordOk at h
  simp only [Bool.and_eq_true] at h
  refine ⟨h.1.1, fun z => ?_, of_decide_eq_true h.2⟩
  have := h.1.2
  rw [z] at this
  cases this
def gLt (d e : D) : Option D := match d, e with
  | .int a, .int b => some (.bool (decide (a < b)))
  | d, e => if ordOk d e = true then some (.bool (PySem.W.dataLt d e)) else none
def gGt (d e : D) : Option D := match d, e with
  | .int a, .int b => some (.bool (decide (b < a)))
  | d, e => if ordOk d e = true then some (.bool (PySem.W.dataLt e d)) else none
def gLe (d e : D) : Option D := match d, e with
  | .int a, .int b => some (.bool (decide (a ≤ b)))
  | d, e => if ordOk d e = true then some (.bool (!PySem.W.dataLt e d)) else none
def gGe (d e : D) : Option D := match d, e with
  | .int a, .int b => some (.bool (decide (b ≤ a)))
  | d, e => if ordOk d e = true then some (.bool (!PySem.W.dataLt d e)) else none
theorem od_lt (hu : X.A.units + 64 < cLine) : OpR X (compareOp .Lt) (rD X.K gLt) := by
  intro pins s σ H x y v u Q I rx ry h
  obtain ⟨A, d, e, r, ah, r1, r2, hg, q⟩ := h
  unfold gLt at hg
  split at hg
  · cases hg
    cases rp_int r1
    cases rp_int r2
    exact op_lt pins s σ H _ _ v u Q I rx ry ⟨_, _, rfl, rfl, q _ H (Same.refl H) (.bl _)⟩
  · by_cases hl : ordOk d e = true
    · rw [if_pos hl] at hg
      cases hg
      obtain ⟨h1, h2, h3⟩ := ordOk_of hl
      obtain ⟨as, q1⟩ := Rp.reads (K := X.K) I r1 rx
      obtain ⟨bs, q2⟩ := Rp.reads (K := X.K) I r2 ry
      exact PySem.W.lt_data q1 q2 h1 h2 (by omega) ⟨.bl _, H, I, rfl, q _ H (Same.refl H) (.bl _)⟩
    · rw [if_neg hl] at hg; cases hg
theorem od_gt (hu : X.A.units + 64 < cLine) : OpR X (compareOp .Gt) (rD X.K gGt) := by
  intro pins s σ H x y v u Q I rx ry h
  obtain ⟨A, d, e, r, ah, r1, r2, hg, q⟩ := h
  unfold gGt at hg
  split at hg
  · cases hg
    cases rp_int r1
    cases rp_int r2
    exact op_gt pins s σ H _ _ v u Q I rx ry ⟨_, _, rfl, rfl, q _ H (Same.refl H) (.bl _)⟩
  · by_cases hl : ordOk d e = true
    · rw [if_pos hl] at hg
      cases hg
      obtain ⟨h1, h2, h3⟩ := ordOk_of hl
      obtain ⟨as, q1⟩ := Rp.reads (K := X.K) I r1 rx
      obtain ⟨bs, q2⟩ := Rp.reads (K := X.K) I r2 ry
      exact PySem.W.gt_data q1 q2 h1 h2 (by omega) ⟨.bl _, H, I, rfl, q _ H (Same.refl H) (.bl _)⟩
    · rw [if_neg hl] at hg; cases hg
theorem od_le (hu : X.A.units + 64 < cLine) : OpR X (compareOp .LtE) (rD X.K gLe) := by
  intro pins s σ H x y v u Q I rx ry h
  obtain ⟨A, d, e, r, ah, r1, r2, hg, q⟩ := h
  unfold gLe at hg
  split at hg
  · cases hg
    cases rp_int r1
    cases rp_int r2
    exact op_le pins s σ H _ _ v u Q I rx ry ⟨_, _, rfl, rfl, q _ H (Same.refl H) (.bl _)⟩
  · by_cases hl : ordOk d e = true
    · rw [if_pos hl] at hg
      cases hg
      obtain ⟨h1, h2, h3⟩ := ordOk_of hl
      obtain ⟨as, q1⟩ := Rp.reads (K := X.K) I r1 rx
      obtain ⟨bs, q2⟩ := Rp.reads (K := X.K) I r2 ry
      exact PySem.W.le_data q1 q2 h1 h2 (by omega) ⟨.bl _, H, I, rfl, q _ H (Same.refl H) (.bl _)⟩
    · rw [if_neg hl] at hg; cases hg
theorem od_ge (hu : X.A.units + 64 < cLine) : OpR X (compareOp .GtE) (rD X.K gGe) := by
  intro pins s σ H x y v u Q I rx ry h
  obtain ⟨A, d, e, r, ah, r1, r2, hg, q⟩ := h
  unfold gGe at hg
  split at hg
  · cases hg
    cases rp_int r1
    cases rp_int r2
    exact op_ge pins s σ H _ _ v u Q I rx ry ⟨_, _, rfl, rfl, q _ H (Same.refl H) (.bl _)⟩
  · by_cases hl : ordOk d e = true
    · rw [if_pos hl] at hg
      cases hg
      obtain ⟨h1, h2, h3⟩ := ordOk_of hl
      obtain ⟨as, q1⟩ := Rp.reads (K := X.K) I r1 rx
      obtain ⟨bs, q2⟩ := Rp.reads (K := X.K) I r2 ry
      exact PySem.W.ge_data q1 q2 h1 h2 (by omega) ⟨.bl _, H, I, rfl, q _ H (Same.refl H) (.bl _)⟩
    · rw [if_neg hl] at hg; cases hg
/-- is: of None, of truth values -/
def gIs (d e : D) : Option D := match d, e with
  | d, .none => some (.bool (isNon d))
  | .bool a, .bool b => some (.bool (decide (a = b)))
  | _, _ => none
def gIsNot (d e : D) : Option D := match d, e with
  | d, .none => some (.bool (!isNon d))
  | .bool a, .bool b => some (.bool (!decide (a = b)))
  | _, _ => none
theorem isNon_V {K : Fg} {H : Hp} {A : Addr → Prop} {v : V} {d : D} (r : Rp K H A v d) : decide (v = V.non) = isNon d := by
  cases r <;> first | rfl | exact decide_eq_false (fun z => nomatch z)
theorem od_is : OpR X (compareOp .Is) (rD X.K gIs) := by
  intro pins s σ H x y v u Q I rx ry h
  obtain ⟨A, d, e, r, ah, r1, r2, hg, q⟩ := h
  unfold gIs at hg
  split at hg
  · cases hg
    cases rp_none r2
    refine op_isN pins s σ H _ _ v u Q I rx ry ⟨rfl, ?_⟩
    rw [isNon_V r1]
    exact q _ H (Same.refl H) (.bl _)
  · cases hg
    cases rp_bool r1
    cases rp_bool r2
    exact op_isBl pins s σ H _ _ v u Q I rx ry ⟨_, _, rfl, rfl, q _ H (Same.refl H) (.bl _)⟩
  · cases hg
theorem od_isNot : OpR X (compareOp .IsNot) (rD X.K gIsNot) := by
  intro pins s σ H x y v u Q I rx ry h
  obtain ⟨A, d, e, r, ah, r1, r2, hg, q⟩ := h
  unfold gIsNot at hg
  split at hg
  · cases hg
    cases rp_none r2
    refine op_notN pins s σ H _ _ v u Q I rx ry ⟨rfl, ?_⟩
    rw [isNon_V r1]
    exact q _ H (Same.refl H) (.bl _)
  · cases hg
    cases rp_bool r1
    cases rp_bool r2
    exact op_notBl pins s σ H _ _ v u Q I rx ry ⟨_, _, rfl, rfl, q _ H (Same.refl H) (.bl _)⟩
  · cases hg
/-- in: a text in a text, an item of a list, a tuple -/
def strIn (x y : Str) : Bool := !(Builtin.Str.occurrences y x 0 y.length 1).isEmpty
def gIn (d e : D) : Option D := match d, e with
  | .str x, .str y => some (.bool (strIn x y))
  | d, .list xs => if (d.plain && PyData.plainAll xs && decide (min (PyData.depthAll xs) d.depth ≤ 60)) = true then some (.bool (xs.any fun y => PyData.eqv y d)) else none
  | d, .tuple xs => if (d.plain && PyData.plainAll xs && decide (min (PyData.depthAll xs) d.depth ≤ 60)) = true then some (.bool (xs.any fun y => PyData.eqv y d)) else none
  | _, _ => none
def gNotIn (d e : D) : Option D := match d, e with
  | .str x, .str y => some (.bool (!strIn x y))
  | d, .list xs => if (d.plain && PyData.plainAll xs && decide (min (PyData.depthAll xs) d.depth ≤ 60)) = true then some (.bool (!xs.any fun y => PyData.eqv y d)) else none
  | d, .tuple xs => if (d.plain && PyData.plainAll xs && decide (min (PyData.depthAll xs) d.depth ≤ 60)) = true then some (.bool (!xs.any fun y => PyData.eqv y d)) else none
  | _, _ => none
theorem od_in (hu : X.A.units + 64 < cLine) : OpR X (compareOp .In) (rD X.K gIn) := by
  intro pins s σ H x y v u Q I rx ry h
  obtain ⟨A, d, e, r, ah, r1, r2, hg, q⟩ := h
  unfold gIn at hg
  split at hg
  · cases hg
    cases rp_str r1
    cases rp_str r2
    exact op_in_str pins s σ H _ _ v u Q I rx ry ⟨_, _, rfl, rfl, q _ H (Same.refl H) (.bl _)⟩
  · split at hg
    · rename_i hl
      cases hg
      simp only [Bool.and_eq_true, decide_eq_true_eq] at hl
      obtain ⟨as, q1⟩ := Rp.reads (K := X.K) I r1 rx
      obtain ⟨bs, q2⟩ := Rp.reads (K := X.K) I r2 ry
      exact PySem.SeqAt.in_list_data q2 q1 hl.1.2 hl.1.1 (by omega) ⟨.bl _, H, I, rfl, q _ H (Same.refl H) (.bl _)⟩
    · cases hg
  · split at hg
    · rename_i hl
      cases hg
      simp only [Bool.and_eq_true, decide_eq_true_eq] at hl
      obtain ⟨as, q1⟩ := Rp.reads (K := X.K) I r1 rx
      obtain ⟨bs, q2⟩ := Rp.reads (K := X.K) I r2 ry
      exact PySem.SeqAt.in_tuple_data q2 q1 hl.1.2 hl.1.1 (by omega) ⟨.bl _, H, I, rfl, q _ H (Same.refl H) (.bl _)⟩
    · cases hg
  · cases hg
theorem od_notIn (hu : X.A.units + 64 < cLine) : OpR X (compareOp .NotIn) (rD X.K gNotIn) := by
  intro pins s σ H x y v u Q I rx ry h
  obtain ⟨A, d, e, r, ah, r1, r2, hg, q⟩ := h
  unfold gNotIn at hg
  split at hg
  · cases hg
    cases rp_str r1
    cases rp_str r2
    exact op_notin_str pins s σ H _ _ v u Q I rx ry ⟨_, _, rfl, rfl, q _ H (Same.refl H) (.bl _)⟩
  · split at hg
    · rename_i hl
      cases hg
      simp only [Bool.and_eq_true, decide_eq_true_eq] at hl
      obtain ⟨as, q1⟩ := Rp.reads (K := X.K) I r1 rx
      obtain ⟨bs, q2⟩ := Rp.reads (K := X.K) I r2 ry
      exact PySem.SeqAt.notIn_list_data q2 q1 hl.1.2 hl.1.1 (by omega) ⟨.bl _, H, I, rfl, q _ H (Same.refl H) (.bl _)⟩
    · cases hg
  · split at hg
    · rename_i hl
      cases hg
      simp only [Bool.and_eq_true, decide_eq_true_eq] at hl
      obtain ⟨as, q1⟩ := Rp.reads (K := X.K) I r1 rx
      obtain ⟨bs, q2⟩ := Rp.reads (K := X.K) I r2 ry
      exact PySem.SeqAt.notIn_tuple_data q2 q1 hl.1.2 hl.1.1 (by omega) ⟨.bl _, H, I, rfl, q _ H (Same.refl H) (.bl _)⟩
    · cases hg
  · cases hg

/-! ### subscripts -/
def gIx (d e : D) : Option D := match d, e with
  | .list xs, .int i => atI xs i
  | .tuple xs, .int i => atI xs i
  | .str z, .int i => if lineOk z.length = true then (atI z.cps.toList i).map fun c => .str ⟨#[c]⟩ else none
  | _, _ => none
theorem atI_rp {K : Fg} {H : Hp} {A : Addr → Prop} {vs : List V} {ds : List D} {i : Int} {d : D} (r : RpAll K H A vs ds) (h : atI ds i = some d) : ∃ v, atI vs i = some v ∧ Rp K H A v d := by
  unfold atI at h ⊢
  rw [r.len]
  cases e : ixN ds.length i with
  | none => rw [e] at h; cases h
  | some j =>
    rw [e] at h
    exact r.get h
theorem xd_ix : IxR X (rD X.K gIx) := by
  intro value slice pins s σ H x y v u Q I rx ry h hs
  obtain ⟨A, d, e, r, ah, r1, r2, hg, q⟩ := h
  unfold gIx at hg
  split at hg
  · obtain ⟨p, xs, rfl, h1, h2⟩ := r1.list
    cases rp_int r2
    obtain ⟨w, h3, h4⟩ := atI_rp h2 hg
    exact ix_list value slice pins s σ H _ _ v u Q I rx ry ⟨p, xs, _, w, rfl, rfl, .inl (.inl h1), h3, q _ H (Same.refl H) h4⟩ hs
  · obtain ⟨p, xs, rfl, h1, h2⟩ := r1.tuple
    cases rp_int r2
    obtain ⟨w, h3, h4⟩ := atI_rp h2 hg
    exact ix_tup value slice pins s σ H _ _ v u Q I rx ry ⟨p, xs, _, w, rfl, rfl, h1, h3, q _ H (Same.refl H) h4⟩ hs
  · rename_i z i
    by_cases hl : lineOk z.length = true
    · rw [if_pos hl] at hg
      cases rp_str r1
      cases rp_int r2
      cases e : atI z.cps.toList i with
      | none => rw [e] at hg; cases hg
      | some c =>
        rw [e] at hg
        cases hg
        exact ix_str value slice pins s σ H _ _ v u Q I rx ry ⟨z, i, c, rfl, rfl, lineOk_le hl, e, q _ H (Same.refl H) (.str _)⟩ hs
    · rw [if_neg hl] at hg; cases hg
  · cases hg
/-- s[lo:hi] -/
def cutD (ds : List D) (lo hi : Option Int) : List D := (ds.drop (HT.sIx ds.length 0 lo)).take (HT.sIx ds.length ds.length hi - HT.sIx ds.length 0 lo)
def gSl (d : D) (lo hi : Option Int) : Option D := match d with
  | .list xs => some (.list (cutD xs lo hi))
  | .tuple xs => some (.tuple (cutD xs lo hi))
  | .str z => if lineOk z.length = true then some (.str (cutS z lo hi)) else none
  | _ => none
def rSlD (K : Fg) : V → Option Int → Option Int → Hp → VK → Prop := fun x lo hi H Q => ∃ (A : Addr → Prop) (d r : D), (∀ a, A a → ∃ o, H a = some o) ∧ Rp K H A x d ∧ gSl d lo hi = some r ∧ ∀ v H', Same H H' → Rp K H' A v r → Q v H'
theorem cut_rp {K : Fg} {H : Hp} {A : Addr → Prop} {vs : List V} {ds : List D} (r : RpAll K H A vs ds) (lo hi : Option Int) : RpAll K H A (cutV vs lo hi) (cutD ds lo hi) := by
  unfold cutV cutD
  rw [r.len]
  exact (r.drop _).take _
theorem sd_sl : SlR X (rSlD X.K) := by
  intro pins s σ H x v vl vu lo hi sl Q I rx hs pl pu h
  obtain ⟨A, d, r, ah, r1, hg, q⟩ := h
  unfold gSl at hg
  split at hg
  · cases hg
    obtain ⟨p, xs, rfl, h1, h2⟩ := r1.list
    exact sl_list pins s σ H _ v vl vu lo hi sl Q I rx hs pl pu ⟨p, xs, rfl, .inl (.inl h1), fun t ht => q _ _ (new_same ht) (rp_new_lst ah ht (cut_rp h2 lo hi))⟩
  · cases hg
    obtain ⟨p, xs, rfl, h1, h2⟩ := r1.tuple
    refine sl_tupA pins s σ H _ v vl vu lo hi sl Q I rx hs pl pu ⟨p, xs, rfl, h1, fun z => ?_, fun _ t ht => q _ _ (new_same ht) (rp_new_tup ht (cut_rp h2 lo hi))⟩
    rename_i ds
    have e : cutD ds lo hi = ds := by
      unfold cutD
      rw [← h2.len, z.1, z.2, List.drop_zero, Nat.sub_zero, h2.len, List.take_length]
    rw [e] at q
    exact q _ H (Same.refl H) r1
  · rename_i z
    by_cases hl : lineOk z.length = true
    · rw [if_pos hl] at hg
      cases hg
      cases rp_str r1
      exact sl_str pins s σ H _ v vl vu lo hi sl Q I rx hs pl pu ⟨z, rfl, lineOk_le hl, q _ H (Same.refl H) (.str _)⟩
    · rw [if_neg hl] at hg; cases hg
  · cases hg
/-- a bound of a slice -/
def fPart (fa : Sem1 D) : Sem1 (Option Int) := fun ρ s => (fa ρ s).bind fun x s1 => match x with
  | .int i => .ok (some i) s1
  | _ => .bad
def fNoPart : Sem1 (Option Int) := fun _ s => .ok none s
section
variable (K : Fg) (mg : Str → Option Value)
def ResP (wd : Wd) (A0 A : Addr → Prop) (H0 : Hp) (ρ : En) (σ : St) (H : Hp) (W : WX) (Q : Option Int → Hp → Prop) : Res (Option Int) → Prop
  | .ok b s' => ∀ H', Good K mg wd A0 A H0 ρ s' σ H' → Ext wd.df H H' → Q b H'
  | .exc c s' => ∀ H', Good K mg wd A0 A H0 ρ s' σ H' → Ext wd.df H H' → W (xv mg c) none σ H'
  | .bad => False
def tP (f : Sem1 (Option Int)) (W : WX) : TO := fun σ H Q => ∃ wd A0 A H0 ρ s, Good K mg wd A0 A H0 ρ s σ H ∧ ResP K mg wd A0 A H0 ρ σ H W Q (f ρ s)
end
abbrev EvP (X : Cx) (W : WX) (e : Option Expr) (f : Sem1 (Option Int)) : Prop := PO X e (tP X.K X.mg f W)
theorem tP_bind {W : WX} {K : Fg} {mg : Str → Option Value} {wd : Wd} {A0 A : Addr → Prop} {H0 H : Hp} {ρ : En} {s : Dk} {σ : St} {f : Sem1 (Option Int)} {Q : Option Int → Hp → Prop} (G : Good K mg wd A0 A H0 ρ s σ H)
    (hok : ∀ d s' H', f ρ s = .ok d s' → Good K mg wd A0 A H0 ρ s' σ H' → Ext wd.df H H' → Q d H')
    (hexc : ∀ c s' H', f ρ s = .exc c s' → Good K mg wd A0 A H0 ρ s' σ H' → Ext wd.df H H' → W (xv mg c) none σ H') (hbad : f ρ s = .bad → False) : tP K mg f W σ H Q := by
  refine ⟨wd, A0, A, H0, ρ, s, G, ?_⟩
  cases e : f ρ s with
  | ok d s' => exact fun H' => hok d s' H' e
  | exc c s' => exact fun H' => hexc c s' H' e
  | bad => exact hbad e
theorem ep_none {W : WX} : EvP X W none fNoPart := ⟨fun pins s σ H Q I h => by
  obtain ⟨wd, A0, A, H0, ρ, t, G, q⟩ := h
  exact po_none.run pins s σ H Q I (q H G Ext.refl)⟩
theorem ep_some {W : WX} {e : Expr} {fa : Sem1 D} (h : EvE X W e fa) : EvP X W (some e) (fPart fa) := ⟨fun pins s σ H Q I q => by
  refine (po_some h).run pins s σ H Q I ?_
  obtain ⟨wd, A0, A, H0, ρ, t, G, q⟩ := q
  unfold fPart at q
  refine tE_bind G (fun x s1 v H1 e1 G1 x1 r1 => ?_) (fun c s1 H1 e1 G1 x1 => by rw [e1] at q; exact q H1 G1 x1) (fun e1 => by rw [e1] at q; exact q)
  rw [e1, Res.bind_ok] at q
  cases x with
  | int i => exact ⟨i, rp_int r1, q H1 G1 x1⟩
  | _ => exact q.elim⟩
def fSl (fa : Sem1 D) (fl fh : Sem1 (Option Int)) : Sem1 D := fun ρ s => (fa ρ s).bind fun x s1 => (fl ρ s1).bind fun lo s2 => (fh ρ s2).bind fun hi s3 => .lift (gSl x lo hi) s3
theorem ev_sl {W : WX} {e : Expr} {lo hi : Option Expr} {fa : Sem1 D} {fl fh : Sem1 (Option Int)} {p2 pos : Pos} (he : EvE X W e fa) (hl : EvP X W lo fl) (hh : EvP X W hi fh) : EvE X W (.Subscript e (.Slice lo hi none p2) pos) (fSl fa fl fh) := by
  refine (pe_slice sd_sl he hl hh).imp fun σ H Q q => ?_
  obtain ⟨wd, A0, A, H0, ρ, t, G, q⟩ := q
  unfold fSl at q
  refine tE_bind G (fun x s1 v H1 e1 G1 x1 r1 => ?_) (fun c s1 H1 e1 G1 x1 => by rw [e1] at q; exact q H1 G1 x1) (fun e1 => by rw [e1] at q; exact q)
  rw [e1, Res.bind_ok] at q
  refine tP_bind G1 (fun l s2 H2 e2 G2 x2 => ?_) (fun c s1 H1 e1 G1 x2 => by rw [e1] at q; exact q H1 G1 (x1.trans x2)) (fun e1 => by rw [e1] at q; exact q)
  rw [e2, Res.bind_ok] at q
  refine tP_bind G2 (fun u s3 H3 e3 G3 x3 => ?_) (fun c s1 H1 e1 G1 x3 => by rw [e1] at q; exact q H1 G1 (x1.trans (x2.trans x3))) (fun e1 => by rw [e1] at q; exact q)
  rw [e3, Res.bind_ok] at q
  cases e4 : gSl x l u with
  | none => rw [e4] at q; exact q.elim
  | some r =>
    rw [e4] at q
    exact ⟨A, x, r, G3.ah, G2.rp (G1.rp r1 x2) x3, e4, fun w H4 sm r4 => q w H4 (G3.same sm) ((x1.trans (x2.trans x3)).trans (Ext.same sm)) r4⟩
end
end Cw

namespace Cw
open PySem PySem.Spec PyProof.Rows L2
section
variable {X : Cx} {W : WX} {e : Expr} {es : List Expr} {fl : Sem1 (List D)} {fa : Sem1 D} {x : Str} {p pos : Pos}
/-! ### built-in functions -/
def fCB (g : List D → Option D) (fl : Sem1 (List D)) : Sem1 D := fun ρ s => (fl ρ s).bind fun ds s1 => .lift (g ds) s1
theorem tE_cb {K : Fg} {mg : Str → Option Value} {g : List D → Option D} {σ : St} {H : Hp} {Q : VK} (h : tE K mg (fCB g fl) W σ H Q) : tCB (rL K g) (tL K mg fl W) σ H Q := by
  obtain ⟨wd, A0, A, H0, ρ, s, G, q⟩ := h
  unfold fCB at q
  refine tL_bind G (fun ds s1 v H1 e1 G1 x1 r1 => ?_) (fun c s1 H1 e1 G1 x1 => by rw [e1] at q; exact q H1 G1 x1) (fun e1 => by rw [e1] at q; exact q)
  rw [e1, Res.bind_ok] at q
  cases e3 : g ds with
  | none => rw [e3] at q; exact q.elim
  | some r =>
    rw [e3] at q
    exact ⟨A, ds, r, G1.ah, r1, e3, fun w H3 sm r3 => q w H3 (G1.same sm) (x1.trans (Ext.same sm)) r3⟩
theorem ev_cb {id : String} {g : List D → Option D} (hc : CallR X (.builtin id) (rL X.K g)) (hg : Gl X x) (hm : X.mg x = none) (hv : bootBuiltins x = some (.builtin id)) (ha : EvL X W (e :: es) fl) (hn : x ≠ "__name__" := by decide) (hdb : (x == ("__debug__" : Str)) = false := by decide)
    (he : starEach (e :: es) X.env = (false, eval e X.env) :: starEach es X.env := by rfl) (hpl : (backTo pos (starEach es X.env)).any (·.1) = false := by rfl) : EvE X W (.Call (.Name x p) (e :: es) [] pos) (fCB g fl) :=
  (pe_callB hc hg hm hv ha hn hdb he hpl).imp fun _ _ _ => tE_cb
theorem ev_ct {T : String} {g : List D → Option D} (hc : CallR X (.type T) (rL X.K g)) (hg : Gl X x) (hm : X.mg x = none) (hv : bootBuiltins x = some (.type T)) (ha : EvL X W (e :: es) fl) (hn : x ≠ "__name__" := by decide) (hdb : (x == ("__debug__" : Str)) = false := by decide)
    (he : starEach (e :: es) X.env = (false, eval e X.env) :: starEach es X.env := by rfl) (hpl : (backTo pos (starEach es X.env)).any (·.1) = false := by rfl) : EvE X W (.Call (.Name x p) (e :: es) [] pos) (fCB g fl) :=
  (pe_callTy hc hg hm hv ha hn hdb he hpl).imp fun _ _ _ => tE_cb
theorem rp1 {K : Fg} {H : Hp} {A : Addr → Prop} {xs : List V} {d : D} (r : RpAll K H A xs [d]) : ∃ v, xs = [v] ∧ Rp K H A v d := by
  cases r with
  | cons h r => cases r; exact ⟨_, rfl, h⟩
theorem rp2 {K : Fg} {H : Hp} {A : Addr → Prop} {xs : List V} {d e : D} (r : RpAll K H A xs [d, e]) : ∃ v w, xs = [v, w] ∧ Rp K H A v d ∧ Rp K H A w e := by
  cases r with
  | cons h r => cases r with
    | cons h2 r => cases r; exact ⟨_, _, rfl, h, h2⟩
/-- len -/
def gLen (ds : List D) : Option D := match ds with
  | [.list xs] => some (.int (xs.length : Nat))
  | [.tuple xs] => some (.int (xs.length : Nat))
  | [.str z] => if lineOk z.length = true then some (.int (z.length : Nat)) else none
  | _ => none
theorem cd_len : CallR X (.builtin "len") (rL X.K gLen) := by
  intro pins s σ H xs us Q I rs h
  obtain ⟨A, ds, r, ah, r1, hg, q⟩ := h
  unfold gLen at hg
  split at hg
  · cases hg
    obtain ⟨v, rfl, h1⟩ := rp1 r1
    obtain ⟨p, ys, rfl, h2, h3⟩ := h1.list
    refine call_len_seq pins s σ H _ us Q I rs ⟨p, ys, rfl, .inl (.inl (.inl h2)), ?_⟩
    rw [h3.len]; exact q _ H (Same.refl H) (.int _)
  · cases hg
    obtain ⟨v, rfl, h1⟩ := rp1 r1
    obtain ⟨p, ys, rfl, h2, h3⟩ := h1.tuple
    refine call_len_seq pins s σ H _ us Q I rs ⟨p, ys, rfl, .inr h2, ?_⟩
    rw [h3.len]; exact q _ H (Same.refl H) (.int _)
  · split at hg
    · rename_i hl
      cases hg
      obtain ⟨v, rfl, h1⟩ := rp1 r1
      cases rp_str h1
      exact call_len_str pins s σ H _ us Q I rs ⟨_, rfl, lineOk_le hl, q _ H (Same.refl H) (.int _)⟩
    · cases hg
  · cases hg
/-- int of an int, of a truth value -/
def gInt (ds : List D) : Option D := match ds with
  | [.int i] => some (.int i)
  | [.bool b] => some (.int (if b then 1 else 0))
  | _ => none
theorem cd_int : CallR X (.type "int") (rL X.K gInt) := by
  intro pins s σ H xs us Q I rs h
  obtain ⟨A, ds, r, ah, r1, hg, q⟩ := h
  unfold gInt at hg
  split at hg
  · cases hg
    obtain ⟨v, rfl, h1⟩ := rp1 r1
    cases rp_int h1
    exact call_int1 pins s σ H _ us Q I rs (.inl ⟨_, rfl, q _ H (Same.refl H) (.int _)⟩)
  · cases hg
    obtain ⟨v, rfl, h1⟩ := rp1 r1
    cases rp_bool h1
    exact call_int1 pins s σ H _ us Q I rs (.inr ⟨_, rfl, q _ H (Same.refl H) (.int _)⟩)
  · cases hg
/-- tuple of a list, of a tuple -/
def gTuple (ds : List D) : Option D := match ds with
  | [.list xs] => some (.tuple xs)
  | [.tuple xs] => some (.tuple xs)
  | _ => none
theorem cd_tuple : CallR X (.type "tuple") (rL X.K gTuple) := by
  intro pins s σ H xs us Q I rs h
  obtain ⟨A, ds, r, ah, r1, hg, q⟩ := h
  unfold gTuple at hg
  split at hg
  · cases hg
    obtain ⟨v, rfl, h1⟩ := rp1 r1
    obtain ⟨p, ys, rfl, h2, h3⟩ := h1.list
    exact call_tuple_of pins s σ H _ us Q I rs ⟨p, ys, rfl, .inl ⟨.inl (.inl h2), fun l hl => q _ _ (new_same hl) (rp_new_tup hl h3)⟩⟩
  · cases hg
    obtain ⟨v, rfl, h1⟩ := rp1 r1
    obtain ⟨p, ys, rfl, h2, h3⟩ := h1.tuple
    exact call_tuple_of pins s σ H _ us Q I rs ⟨p, ys, rfl, .inr ⟨h2, q _ H (Same.refl H) h1⟩⟩
  · cases hg
/-- list of a list, of a tuple: a new one -/
def gListOf (ds : List D) : Option D := match ds with
  | [.list xs] => some (.list xs)
  | [.tuple xs] => some (.list xs)
  | _ => none
theorem cd_list : CallR X (.type "list") (rL X.K gListOf) := by
  intro pins s σ H xs us Q I rs h
  obtain ⟨A, ds, r, ah, r1, hg, q⟩ := h
  unfold gListOf at hg
  split at hg
  · cases hg
    obtain ⟨v, rfl, h1⟩ := rp1 r1
    obtain ⟨p, ys, rfl, h2, h3⟩ := h1.list
    exact call_list_of pins s σ H _ us Q I rs ⟨p, ys, rfl, .inl (.inl (.inl h2)), fun l hl => q _ _ (new_same hl) (rp_new_lst ah hl h3)⟩
  · cases hg
    obtain ⟨v, rfl, h1⟩ := rp1 r1
    obtain ⟨p, ys, rfl, h2, h3⟩ := h1.tuple
    exact call_list_of pins s σ H _ us Q I rs ⟨p, ys, rfl, .inr h2, fun l hl => q _ _ (new_same hl) (rp_new_lst ah hl h3)⟩
  · cases hg
/-! truth values of a list -/
def boolsOf : List D → Option (List Bool)
  | [] => some []
  | .bool b :: r => (boolsOf r).map (b :: ·)
  | _ => none
theorem boolsOf_map : ∀ bs : List Bool, boolsOf (bs.map PyData.bool) = some bs
  | [] => rfl
  | b :: bs => by rw [List.map_cons, boolsOf, boolsOf_map bs]; rfl
theorem boolsOf_eq : ∀ {ds : List D} {bs : List Bool}, boolsOf ds = some bs → ds = bs.map PyData.bool
  | [], bs, h => by cases h; rfl
  | d :: ds, bs, h => by
    cases d with
    | bool b =>
      rw [boolsOf] at h
      cases e : boolsOf ds with
      | none => rw [e] at h; cases h
      | some cs =>
        rw [e] at h
        cases h
        rw [boolsOf_eq e]; rfl
    | _ => cases h
def gAll (ds : List D) : Option D := match ds with
  | [.list xs] => (boolsOf xs).map fun bs => .bool (bs.all id)
  | _ => none
def gAny (ds : List D) : Option D := match ds with
  | [.list xs] => (boolsOf xs).map fun bs => .bool (bs.any id)
  | _ => none
theorem cd_all (hc : X.calm = true) : CallR X (.builtin "all") (rL X.K gAll) := by
  intro pins s σ H xs us Q I rs h
  obtain ⟨A, ds, r, ah, r1, hg, q⟩ := h
  unfold gAll at hg
  split at hg
  · rename_i ys
    cases e : boolsOf ys with
    | none => rw [e] at hg; cases hg
    | some bs =>
      rw [e] at hg
      cases hg
      obtain ⟨v, rfl, h1⟩ := rp1 r1
      rw [boolsOf_eq e] at h1
      obtain ⟨p, zs, rfl, h2, h3⟩ := h1.list
      rw [h3.ofBools] at h2
      exact cr_all hc pins s σ H _ us Q I rs ⟨p, bs, rfl, .inl (.inl h2), q _ H (Same.refl H) (.bl _)⟩
  · cases hg
theorem cd_any (hc : X.calm = true) : CallR X (.builtin "any") (rL X.K gAny) := by
  intro pins s σ H xs us Q I rs h
  obtain ⟨A, ds, r, ah, r1, hg, q⟩ := h
  unfold gAny at hg
  split at hg
  · rename_i ys
    cases e : boolsOf ys with
    | none => rw [e] at hg; cases hg
    | some bs =>
      rw [e] at hg
      cases hg
      obtain ⟨v, rfl, h1⟩ := rp1 r1
      rw [boolsOf_eq e] at h1
      obtain ⟨p, zs, rfl, h2, h3⟩ := h1.list
      rw [h3.ofBools] at h2
      exact cr_any hc pins s σ H _ us Q I rs ⟨p, bs, rfl, .inl (.inl h2), q _ H (Same.refl H) (.bl _)⟩
  · cases hg
/-! ints of a list -/
def intsOf : List D → Option (List Int)
  | [] => some []
  | .int b :: r => (intsOf r).map (b :: ·)
  | _ => none
theorem intsOf_map : ∀ bs : List Int, intsOf (bs.map PyData.int) = some bs
  | [] => rfl
  | b :: bs => by rw [List.map_cons, intsOf, intsOf_map bs]; rfl
theorem intsOf_eq : ∀ {ds : List D} {bs : List Int}, intsOf ds = some bs → ds = bs.map PyData.int
  | [], bs, h => by cases h; rfl
  | d :: ds, bs, h => by
    cases d with
    | int b =>
      rw [intsOf] at h
      cases e : intsOf ds with
      | none => rw [e] at h; cases h
      | some cs =>
        rw [e] at h
        cases h
        rw [intsOf_eq e]; rfl
    | _ => cases h
theorem foldl_min_le : ∀ (ns : List Int) (n : Int), ns.foldl min n ≤ n ∧ (∀ y ∈ ns, ns.foldl min n ≤ y) ∧ (ns.foldl min n = n ∨ ns.foldl min n ∈ ns)
  | [], n => ⟨Int.le_refl _, fun _ h => (nomatch h), .inl rfl⟩
  | m :: ns, n => by
    obtain ⟨h1, h2, h3⟩ := foldl_min_le ns (min n m)
    rw [List.foldl_cons]
    refine ⟨by omega, fun y hy => ?_, ?_⟩
    · rcases List.mem_cons.mp hy with rfl | hy
      · omega
      · exact h2 y hy
    · rcases h3 with h3 | h3
      · rcases Int.le_total n m with h | h
        · left; rw [h3]; omega
        · right; rw [h3, show min n m = m by omega]; exact List.mem_cons_self
      · exact .inr (List.mem_cons_of_mem _ h3)
theorem foldl_max_le : ∀ (ns : List Int) (n : Int), n ≤ ns.foldl max n ∧ (∀ y ∈ ns, y ≤ ns.foldl max n) ∧ (ns.foldl max n = n ∨ ns.foldl max n ∈ ns)
  | [], n => ⟨Int.le_refl _, fun _ h => (nomatch h), .inl rfl⟩
  | m :: ns, n => by
    obtain ⟨h1, h2, h3⟩ := foldl_max_le ns (max n m)
    rw [List.foldl_cons]
    refine ⟨by omega, fun y hy => ?_, ?_⟩
    · rcases List.mem_cons.mp hy with rfl | hy
      · omega
      · exact h2 y hy
    · rcases h3 with h3 | h3
      · rcases Int.le_total n m with h | h
        · right; rw [h3, show max n m = m by omega]; exact List.mem_cons_self
        · left; rw [h3]; omega
      · exact .inr (List.mem_cons_of_mem _ h3)
/-- min of two ints, of a list of ints -/
def gMin (ds : List D) : Option D := match ds with
  | [.int a, .int b] => some (.int (min a b))
  | [.list xs] => match intsOf xs with
    | some (n :: ns) => some (.int (ns.foldl min n))
    | _ => none
  | _ => none
def gMax (ds : List D) : Option D := match ds with
  | [.int a, .int b] => some (.int (max a b))
  | [.list xs] => match intsOf xs with
    | some (n :: ns) => some (.int (ns.foldl max n))
    | _ => none
  | _ => none
theorem cd_min (hc : X.calm = true) : CallR X (.builtin "min") (rL X.K gMin) := by
  intro pins s σ H xs us Q I rs h
  obtain ⟨A, ds, r, ah, r1, hg, q⟩ := h
  unfold gMin at hg
  split at hg
  · rename_i a b
    cases hg
    obtain ⟨v, w, rfl, h1, h2⟩ := rp2 r1
    cases rp_int h1
    cases rp_int h2
    refine call_min2 hc pins s σ H _ us Q I rs ⟨_, _, rfl, ?_⟩
    have e : (if b < a then b else a) = min a b := by
      by_cases h : b < a
      · rw [if_pos h]; omega
      · rw [if_neg h]; omega
    rw [e]
    exact q _ H (Same.refl H) (.int _)
  · rename_i ys
    split at hg
    · rename_i n ns e
      cases hg
      obtain ⟨v, rfl, h1⟩ := rp1 r1
      rw [intsOf_eq e] at h1
      obtain ⟨p, zs, rfl, h2, h3⟩ := h1.list
      rw [h3.ofInts] at h2
      refine cr_min hc pins s σ H _ us Q I rs ⟨p, n :: ns, rfl, .inl (.inl h2), by simp, fun m hm hle => ?_⟩
      obtain ⟨f1, f2, f3⟩ := foldl_min_le ns n
      have : m = ns.foldl min n := by
        have a1 : m ≤ ns.foldl min n := by
          rcases f3 with f3 | f3
          · rw [f3]; exact hle n List.mem_cons_self
          · exact hle _ (List.mem_cons_of_mem _ f3)
        have a2 : ns.foldl min n ≤ m := by
          rcases List.mem_cons.mp hm with rfl | hm
          · exact f1
          · exact f2 m hm
        omega
      rw [this]
      exact q _ H (Same.refl H) (.int _)
    · cases hg
  · cases hg
theorem cd_max (hc : X.calm = true) : CallR X (.builtin "max") (rL X.K gMax) := by
  intro pins s σ H xs us Q I rs h
  obtain ⟨A, ds, r, ah, r1, hg, q⟩ := h
  unfold gMax at hg
  split at hg
  · rename_i a b
    cases hg
    obtain ⟨v, w, rfl, h1, h2⟩ := rp2 r1
    cases rp_int h1
    cases rp_int h2
    refine call_max2 hc pins s σ H _ us Q I rs ⟨_, _, rfl, ?_⟩
    have e : (if b > a then b else a) = max a b := by
      by_cases h : b > a
      · rw [if_pos h]; omega
      · rw [if_neg h]; omega
    rw [e]
    exact q _ H (Same.refl H) (.int _)
  · rename_i ys
    split at hg
    · rename_i n ns e
      cases hg
      obtain ⟨v, rfl, h1⟩ := rp1 r1
      rw [intsOf_eq e] at h1
      obtain ⟨p, zs, rfl, h2, h3⟩ := h1.list
      rw [h3.ofInts] at h2
      refine cr_max hc pins s σ H _ us Q I rs ⟨p, n :: ns, rfl, .inl (.inl h2), by simp, fun m hm hle => ?_⟩
      obtain ⟨f1, f2, f3⟩ := foldl_max_le ns n
      have : m = ns.foldl max n := by
        have a1 : ns.foldl max n ≤ m := by
          rcases f3 with f3 | f3
          · rw [f3]; exact hle n List.mem_cons_self
          · exact hle _ (List.mem_cons_of_mem _ f3)
        have a2 : m ≤ ns.foldl max n := by
          rcases List.mem_cons.mp hm with rfl | hm
          · exact f1
          · exact f2 m hm
        omega
      rw [this]
      exact q _ H (Same.refl H) (.int _)
    · cases hg
  · cases hg
/-! ### isinstance(a, T), T a built-in type -/
def isiD (T : String) : D → Bool
  | .int _ => T == "int"
  | .bool _ => T == "int" || T == "bool"
  | .str _ => T == "str"
  | .tuple _ => T == "tuple"
  | .list _ => T == "list"
  | .none => false
  | .dict _ => false
def fIsi (T : String) (fa : Sem1 D) : Sem1 D := fun ρ s => (fa ρ s).bind fun x s1 => .ok (.bool (isiD T x)) s1
/-- the types that are asked for -/
def isTy (T : String) : Prop := T = "int" ∨ T = "bool" ∨ T = "str" ∨ T = "tuple" ∨ T = "list"
theorem tyx_of {K : Fg} {H : Hp} {A : Addr → Prop} {v : V} {d : D} {T : String} (hT : isTy T) (r : Rp K H A v d) : ∃ t, TyX K H v t ∧ PySem.W.kitOne K t (.type T) = some (isiD T d) := by
  have nd : d ≠ .dict [] ∨ True := .inr trivial
  cases r with
  | non =>
    have k : kitB "NoneType" T = some (isiD T .none) := by rcases hT with rfl | rfl | rfl | rfl | rfl <;> decide +kernel
    exact ⟨_, .base .non, kit_ty k⟩
  | bl b =>
    have k : kitB "bool" T = some (isiD T (.bool true)) := by rcases hT with rfl | rfl | rfl | rfl | rfl <;> decide +kernel
    exact ⟨_, .base (.bl b), kit_ty k⟩
  | int i =>
    have k : kitB "int" T = some (isiD T (.int 0)) := by rcases hT with rfl | rfl | rfl | rfl | rfl <;> decide +kernel
    exact ⟨_, .base (.int i), kit_ty k⟩
  | str z =>
    have k : kitB "str" T = some (isiD T (.str (Str.ofString ""))) := by rcases hT with rfl | rfl | rfl | rfl | rfl <;> decide +kernel
    exact ⟨_, .base (.str z), kit_ty k⟩
  | lst h _ _ =>
    have k : kitB "list" T = some (isiD T (.list [])) := by rcases hT with rfl | rfl | rfl | rfl | rfl <;> decide +kernel
    exact ⟨_, .base (.lst h), kit_ty k⟩
  | tup h _ =>
    have k : kitB "tuple" T = some (isiD T (.tuple [])) := by rcases hT with rfl | rfl | rfl | rfl | rfl <;> decide +kernel
    rcases h with (h | ⟨o, h⟩) | ⟨o, its, n, h1, h2, _⟩
    · exact ⟨_, .base (.tup h), kit_ty k⟩
    · exact ⟨_, .fTuple h, kit_ty k⟩
    · exact ⟨_, .kTuple h1 h2, kit_ty k⟩
theorem ev_isi {a : Expr} {T : String} {tn : Str} {p1 p2 : Pos} (hT : isTy T) (hg : Gl X "isinstance") (hm : X.mg "isinstance" = none) (hg2 : Gl X tn) (hm2 : X.mg tn = none) (hv2 : bootBuiltins tn = some (.type T)) (ha : EvE X W a fa) (hn2 : tn ≠ "__name__" := by decide) (hd2 : (tn == ("__debug__" : Str)) = false := by decide)
    (he : starEach [a, .Name tn p2] X.env = (false, eval a X.env) :: starEach [.Name tn p2] X.env := by rfl) (hpl : (backTo pos (starEach [.Name tn p2] X.env)).any (·.1) = false := by rfl) : EvE X W (.Call (.Name "isinstance" p1) [a, .Name tn p2] [] pos) (fIsi T fa) := by
  refine (pe_callB call_isi hg hm PyProof.Rows.boot_isinstance (pa_cons ha (pa_cons (pe_bltn (v := .ty T) hg2 hm2 hv2 rfl hn2 hd2) pa_nil) he) (he := he) (hpl := hpl)).imp fun σ H Q q => ?_
  obtain ⟨wd, A0, A, H0, ρ, s, G, q⟩ := q
  unfold fIsi at q
  refine tE_bind G (fun d s1 v H1 e1 G1 x1 r1 => ?_) (fun c s1 H1 e1 G1 x1 => by rw [e1] at q; exact q H1 G1 x1) (fun e1 => by rw [e1] at q; exact q)
  rw [e1, Res.bind_ok] at q
  obtain ⟨t, h1, h2⟩ := tyx_of hT r1
  exact ⟨v, .ty T, t, .type T, _, rfl, .ty T, h1, h2, q _ H1 G1 x1 (.bl _)⟩
end
end Cw

namespace Cw
open PySem PySem.Spec PyProof.Rows L2
/-! ### zip, enumerate, of lists, tuples, texts in any mix -/
inductive Sk where
  | l (a : Addr) | t (a : Addr) | s (z : Str) (tk : Tok)
def Sk.val : Sk → Value
  | .l a => .ref a
  | .t a => .ref a
  | .s z tk => .str z tk
def Sk.ads : Sk → List Addr
  | .l a => [a]
  | .t a => [a]
  | .s _ _ => []
/-- xs stand there -/
def SrcS (K : Fg) (H : Hp) : Sk → List V → Prop
  | .l a, xs => SqL K H a xs
  | .t a, xs => SqT K H a xs
  | .s z _, xs => xs = z.cps.toList.map fun c => .str ⟨#[c]⟩
/-- its iterator at it, behind i items -/
def ItS : Sk → Addr → Nat → Heap → Prop
  | .l a, it, i, h => h.IsListIter it a i
  | .t a, it, i, h => h.IsTupleIter it a i
  | .s z tk, it, i, h => h.IsStrIter it (strIterType z) z tk i
theorem ItS.at {k : Sk} {it : Addr} {i : Nat} {h h' : Heap} (x : ItS k it i h) (e : ∀ o, h.get? it = some o → h'.get? it = some o) : ItS k it i h' := by
  cases k with
  | l a => exact Heap.IsListIter.at x e
  | t a => exact Heap.IsTupleIter.at x e
  | s z tk => obtain ⟨o, q, r⟩ := x; exact ⟨o, e o q, r⟩
theorem ItS.obj {k : Sk} {it : Addr} {i : Nat} {h : Heap} (x : ItS k it i h) : ∃ o, h.get? it = some o ∧ ∀ v, o.data ≠ .cell v := by
  cases k with
  | l a => obtain ⟨o, e, _, d⟩ := x; exact ⟨o, e, fun v q => by rw [d] at q; cases q⟩
  | t a => obtain ⟨o, e, _, d⟩ := x; exact ⟨o, e, fun v q => by rw [d] at q; cases q⟩
  | s z tk => obtain ⟨o, e, _, d⟩ := x; exact ⟨o, e, fun v q => by rw [d] at q; cases q⟩
section
variable {X : Cx} {pins : List (Addr × Obj)} {σ : St} {H : Hp} {s : Shared}
theorem SrcS.lt (I : Inv X pins σ H s) {k : Sk} {xs : List V} (h : SrcS X.K H k xs) : ∀ b ∈ k.ads, b < s.heap.objs.size := fun b hb => by
  cases k with
  | l a =>
    have e : b = a := by simpa [Sk.ads] using hb
    subst e
    obtain ⟨_, _, p, _⟩ := I.list h
    exact p.lt
  | t a =>
    have e : b = a := by simpa [Sk.ads] using hb
    subst e
    obtain ⟨_, _, p, _⟩ := I.tuple h
    exact p.lt
  | s z tk => cases hb
theorem sk_begins (I : Inv X pins σ H s) {k : Sk} {xs : List V} (h : SrcS X.K H k xs) : ∃ (o : Obj) (Hp : Heap → Prop), Begins k.val o Hp ∧ Hp s.heap ∧ ∀ (h' : Heap) (it : Addr), h'.get? it = some o → ItS k it 0 h' := by
  cases k with
  | l a =>
    obtain ⟨its, _, p, _⟩ := I.list h
    exact ⟨_, _, begins_list a its.toArray, p.isList, fun h' it e => ⟨_, e, rfl, rfl⟩⟩
  | t a =>
    obtain ⟨its, _, p, _⟩ := I.tuple h
    exact ⟨_, _, begins_tuple a its.toArray, p, fun h' it e => ⟨_, e, rfl, rfl⟩⟩
  | s z tk => exact ⟨_, _, begins_text z tk, trivial, fun h' it e => ⟨_, e, rfl, rfl⟩⟩
theorem sk_draws (I : Inv X pins σ H s) (hc : X.calm = true) {k : Sk} {xs : List V} (h : SrcS X.K H k xs) (it : Addr) (hne : it ∉ k.ads) : ∃ (P : Nat → Value → Prop) (St : Nat → Heap → Prop), Draws X.prog X.w X.A.in1 it (it :: k.ads) xs.length P St ∧
    (∀ i, ItS k it i s.heap → St i s.heap) ∧ (∀ i v, P i v → ∃ a, xs[i]? = some a ∧ RelV a v) ∧ (∀ i h', St i h' → ItS k it i h') := by
  have hh : X.A.in1.handled = none := I.ok.hd hc
  cases k with
  | l a =>
    have ne : a ≠ it := fun z => hne (by simp [Sk.ads, z])
    obtain ⟨its, rv, p, _⟩ := I.list h
    have hl := rv.length
    have D := Draws.list (prog := X.prog) (w := X.w) hh it a ne its.toArray
    rw [show its.toArray.size = xs.length by simp [hl]] at D
    refine ⟨_, _, D, fun i st => ⟨st, p.isList⟩, fun i v e => ?_, fun i h' st => st.1⟩
    have e' : its[i]? = some v := by simpa using e
    have hi : i < xs.length := by rw [hl]; exact (List.getElem?_eq_some_iff.mp e').1
    obtain ⟨u, h1, h2⟩ := rv.get (List.getElem?_eq_getElem hi)
    rw [e'] at h1; cases h1
    exact ⟨_, List.getElem?_eq_getElem hi, h2⟩
  | t a =>
    have ne : a ≠ it := fun z => hne (by simp [Sk.ads, z])
    obtain ⟨its, rv, p, _⟩ := I.tuple h
    have hl := rv.length
    have D := Draws.tuple (prog := X.prog) (w := X.w) hh it a ne its.toArray
    rw [show its.toArray.size = xs.length by simp [hl]] at D
    refine ⟨_, _, D, fun i st => ⟨st, p⟩, fun i v e => ?_, fun i h' st => st.1⟩
    have e' : its[i]? = some v := by simpa using e
    have hi : i < xs.length := by rw [hl]; exact (List.getElem?_eq_some_iff.mp e').1
    obtain ⟨u, h1, h2⟩ := rv.get (List.getElem?_eq_getElem hi)
    rw [e'] at h1; cases h1
    exact ⟨_, List.getElem?_eq_getElem hi, h2⟩
  | s z tk =>
    have D := Draws.text (prog := X.prog) (w := X.w) hh it z tk
    have h : xs = z.cps.toList.map fun c => V.str ⟨#[c]⟩ := h
    subst h
    rw [show z.cps.size = (z.cps.toList.map fun c => V.str ⟨#[c]⟩).length by simp] at D
    refine ⟨_, _, D, fun i st => st, fun i v e => ?_, fun i h' st => st⟩
    obtain ⟨c, u, e1, rfl⟩ := e
    exact ⟨.str ⟨#[c]⟩, by rw [List.getElem?_map]; simp [e1], ⟨u, rfl⟩⟩
end
/-- both walked, each pair new -/
def Izz (K : Fg) (k1 k2 : Sk) (xs ys : List V) : It :=
  ⟨fun i H => SrcS K H k1 xs ∧ SrcS K H k2 ys ∧ i < xs.length ∧ i < ys.length,
    fun i H v H' => ∃ T x y, v = .ref T ∧ H T = none ∧ H' = upd H T (.tup [x, y]) ∧ xs[i]? = some x ∧ ys[i]? = some y,
    fun i H => SrcS K H k1 xs ∧ SrcS K H k2 ys ∧ i ≤ xs.length ∧ i ≤ ys.length ∧ (i = xs.length ∨ i = ys.length)⟩
theorem not_mem_of_sep {a it : Addr} {l : List Addr} (h : it ∉ a :: l) : it ∉ l := fun z => h (List.mem_cons_of_mem _ z)
theorem turn_zz {P : Program} {w : World} {K : Fg} {elts : List Expr} {kk : Nat} {tpos : Pos} {k1 k2 : Sk} {xs ys : List V} {z TI TO i1 i2 : Addr} (n1 : i1 ∉ k1.ads) (n2 : i2 ∉ k2.ads) (S : ZipSep2 z TI TO i1 i2 (i1 :: k1.ads) (i2 :: k2.ads)) :
    Turn P w K (.Tuple elts kk tpos) (Izz K k1 k2 xs ys) [z, TI, TO, i1, i2] z (fun i h => IsZip h z TI TO .none ∧ IsTupOf2 h TI (.ref i1) (.ref i2) ∧ (∃ x y, IsTupOf2 h TO x y) ∧ ItS k1 i1 i h ∧ ItS k2 i2 i h) where
  mem := by simp
  obj := fun i h st c hc => by
    obtain ⟨hz, hTI, ⟨x, y, hTO⟩, h1, h2⟩ := st
    have e' : c = z ∨ c = TI ∨ c = TO ∨ c = i1 ∨ c = i2 := by simpa using hc
    rcases e' with q | q | q | q | q
    · rw [q]; exact ⟨_, hz, fun v q => nomatch q⟩
    · rw [q]; exact ⟨_, hTI, fun v q => nomatch q⟩
    · rw [q]; exact ⟨_, hTO, fun v q => nomatch q⟩
    · rw [q]; exact h1.obj
    · rw [q]; exact h2.obj
  keep := fun i h h' st k => by
    obtain ⟨hz, hTI, ⟨x, y, hTO⟩, h1, h2⟩ := st
    exact ⟨k z (by simp) _ hz, k TI (by simp) _ hTI, ⟨x, y, k TO (by simp) _ hTO⟩, h1.at fun o q => k i1 (by simp) o q, h2.at fun o q => k i2 (by simp) o q⟩
  item := by
    intro X hP hw hK hc i pins s σ H E I hf st hg
    subst hP hw hK
    obtain ⟨hz, hTI, ⟨x0, y0, hTO⟩, h1, h2⟩ := st
    obtain ⟨sx, sy, lx, ly⟩ := hg
    obtain ⟨P1, St1, D1, a1, b1, c1⟩ := sk_draws I hc sx i1 n1
    obtain ⟨P2, St2, D2, a2, b2, c2⟩ := sk_draws I hc sy i2 n2
    have hzl : z < s.heap.objs.size := Heap.lt_size hz
    refine wpAny_pyNext_zipD2_item S D1 D2 hz hTI hTO (a1 i h1) (a2 i h2) lx ly fun u u2 h' tk p1 p2 z' TO' st1 st2 hT hsz hk => ?_
    obtain ⟨x, hx, ru⟩ := b1 i u p1
    obtain ⟨y, hy, ru2⟩ := b2 i u2 p2
    refine ⟨_, rfl, wpAny_letOwnedTupleGo_zip (s := { s with heap := h', toks := tk }) z' fun h'' z'' sb => ?_⟩
    have hT2 : h''.get? s.heap.objs.size = some { cls := .type "tuple", data := .seq #[u, u2] } := (sb.2 _ (Nat.ne_of_gt hzl)).trans hT
    have new : ObjOk X.prog X.w (upd H s.heap.objs.size (.tup [x, y])) h'' s.heap.objs.size (.tup [x, y]) :=
      ⟨by show 2 ≤ sizeLine; decide, [u, u2], .cons ru (.cons ru2 .nil), ⟨_, hT2, rfl, _, rfl⟩⟩
    have I1 : Inv X pins σ (upd H s.heap.objs.size (.tup [x, y])) { s with heap := h'', toks := tk } :=
      I.turnedNew (t' := tk) (ch := [z, TI, TO, i1, i2]) (fun c o hb q => (sb.2 c (fun q' => hb (by simp [q']))).trans (hk c o (fun q' => hb (by simp [q'])) (fun q' => hb (by simp [q'])) (fun q' => hb (by simp [q'])) (fun q' => hb (by simp [q'])) q)) hf (Nat.le_refl _) new
    have i1z : i1 ≠ z := fun e => S.zi1 e.symm
    have i2z : i2 ≠ z := fun e => S.zi2 e.symm
    refine ⟨.ref s.heap.objs.size, _, I1, rfl, ⟨_, x, y, rfl, I.hok.fresh (Nat.le_refl _), rfl, hx, hy⟩, ⟨z'', ?_, ⟨u, u2, ?_⟩, ?_, ?_⟩, fun c hcm => ?_⟩
    · exact (sb.2 _ S.TIz).trans (hk _ _ S.TIz S.TITO S.TIi1 S.TIi2 hTI)
    · exact (sb.2 _ S.TOz).trans TO'
    · exact (c1 _ _ st1).at fun o q => (sb.2 _ i1z).trans q
    · exact (c2 _ _ st2).at fun o q => (sb.2 _ i2z).trans q
    · have hlt : c < s.heap.objs.size := by
        have e' : c = z ∨ c = TI ∨ c = TO ∨ c = i1 ∨ c = i2 := by simpa using hcm
        rcases e' with q | q | q | q | q
        · rw [q]; exact hzl
        · rw [q]; exact Heap.lt_size hTI
        · rw [q]; exact Heap.lt_size hTO
        · rw [q]; obtain ⟨_, e1, _⟩ := h1.obj; exact Heap.lt_size e1
        · rw [q]; obtain ⟨_, e2, _⟩ := h2.obj; exact Heap.lt_size e2
      rw [upd_ne (Nat.ne_of_lt hlt)]
      exact (hf c hcm).1
  done := by
    intro X hP hw hK hc i pins s σ H E I hf st hg
    subst hP hw hK
    obtain ⟨hz, hTI, ⟨x0, y0, hTO⟩, h1, h2⟩ := st
    obtain ⟨sx, sy, lx, ly, hend⟩ := hg
    obtain ⟨P1, St1, D1, a1, b1, c1⟩ := sk_draws I hc sx i1 n1
    obtain ⟨P2, St2, D2, a2, b2, c2⟩ := sk_draws I hc sy i2 n2
    exact wpAny_pyNext_zipD2_end S D1 D2 hz hTI hTO (a1 i h1) (a2 i h2) lx ly hend fun h' tk hk => ⟨rfl, I.turnedL (t' := tk) (ch := [z, TI, TO, i1, i2]) (fun c o hb q =>
      hk c o (fun q' => hb (by simp [q'])) (fun q' => hb (by simp [q'])) (fun q' => hb (by simp [q'])) (fun q' => hb (by simp [q'])) q) hf⟩
  self := fun A i s Q E st h => wpAny_pyIter_zip st.1 h
/-- what a datum is walked as -/
theorem sk_of {K : Fg} {H : Hp} {A : Addr → Prop} {v : V} {u : Value} {d : D} {ds : List D} (r : Rp K H A v d) (rv : RelV v u) (h : itemsD d = some ds) : ∃ k xs, k.val = u ∧ (∀ H', Ext A H H' → SrcS K H' k xs) ∧ RpAll K H A xs ds := by
  cases d with
  | list es =>
    cases h
    obtain ⟨a, xs, rfl, hs, rx⟩ := rp_listE r
    cases rv
    exact ⟨.l a, xs, rfl, hs, rx⟩
  | tuple es =>
    cases h
    obtain ⟨a, xs, rfl, ht, rx⟩ := r.tuple
    cases rv
    exact ⟨.t a, xs, rfl, fun H' e => e.sqT ht, rx⟩
  | str z =>
    cases h
    cases rp_str r
    obtain ⟨t, rfl⟩ := rv
    refine ⟨.s z t, _, rfl, fun H' _ => rfl, ?_⟩
    generalize z.cps.toList = l
    induction l with
    | nil => exact .nil
    | cons c l ih => exact .cons (.str _) ih
  | _ => cases h
def zipD (xs ys : List D) : List D := (xs.zip ys).map fun p => .tuple [p.1, p.2]
theorem itd_zip {K : Fg} {A : Addr → Prop} {k1 k2 : Sk} {xs ys : List V} {ds es : List D} {H : Hp} (h1 : ∀ H', Ext A H H' → SrcS K H' k1 xs) (h2 : ∀ H', Ext A H H' → SrcS K H' k2 ys) (r1 : RpAll K H A xs ds) (r2 : RpAll K H A ys es) : ItD K A (Izz K k1 k2 xs ys) (zipD ds es) H where
  goes := fun i H' hi e => by
    unfold zipD at hi
    rw [List.length_map, List.length_zip] at hi
    exact ⟨h1 H' e, h2 H' e, by rw [r1.len]; omega, by rw [r2.len]; omega⟩
  stops := fun H' e => by
    unfold zipD
    rw [List.length_map, List.length_zip]
    exact ⟨h1 H' e, h2 H' e, by rw [r1.len]; omega, by rw [r2.len]; omega, by rw [r1.len, r2.len]; omega⟩
  yields := fun i H' x H2 d hd e y => by
    obtain ⟨T, a, b, rfl, hT, rfl, ha, hb⟩ := y
    unfold zipD at hd
    rw [List.getElem?_map] at hd
    cases z : (ds.zip es)[i]? with
    | none => rw [z] at hd; cases hd
    | some p =>
      rw [z] at hd
      cases hd
      obtain ⟨p1, p2⟩ := p
      obtain ⟨q1, q2⟩ := List.getElem?_zip_eq_some.mp z
      obtain ⟨v1, g1, g2⟩ := r1.get q1
      obtain ⟨v2, g3, g4⟩ := r2.get q2
      rw [ha] at g1; cases g1
      rw [hb] at g3; cases g3
      exact ⟨new_same hT, fun A' hA => rp_new_tup hT (.cons (g2.move e hA) (.cons (g4.move e hA) .nil))⟩
def fZip (fl : Sem1 (List D)) : Sem1 (List D) := fun ρ s => (fl ρ s).bind fun xs s1 => match xs with
  | [a, b] => match itemsD a, itemsD b with
    | some xs, some ys => .ok (zipD xs ys) s1
    | _, _ => .bad
  | _ => .bad
section
variable {X : Cx} {W : WX}
theorem ei_zip {e e2 : Expr} {fl : Sem1 (List D)} {p pos tpos : Pos} {elts : List Expr} {kk : Nat} (hg : Gl X "zip") (hm : X.mg "zip" = none) (ha : EvL X W [e, e2] fl)
    (hs : starEach [e, e2] X.env = (false, eval e X.env) :: starEach [e2] X.env := by rfl) (hpl : (backTo pos (starEach [e2] X.env)).any (·.1) = false := by rfl) :
    EvI X W (.Tuple elts kk tpos) (.Call (.Name "zip" p) [e, e2] [] pos) (fZip fl) := by
  refine ⟨fun pins s σ H R I q => ?_⟩
  obtain ⟨wd, A0, A, H0, ρ, t, G, q⟩ := q
  unfold fZip at q
  have hr : tL X.K X.mg fl W σ H fun vs H1 => ∃ a b ds es t1, RpAll X.K H1 A vs [a, b] ∧ itemsD a = some ds ∧ itemsD b = some es ∧ Good X.K X.mg wd A0 A H0 ρ t1 σ H1 ∧ ∀ J, ItD X.K A J (zipD ds es) H1 → R J H1 := by
    refine tL_bind G (fun d s1 v H1 e1 G1 x1 r1 => ?_) (fun c s1 H1 e1 G1 x1 => by rw [e1] at q; exact q H1 G1 x1) (fun e1 => by rw [e1] at q; exact q)
    rw [e1, Res.bind_ok] at q
    split at q
    · rename_i a b
      split at q
      · rename_i xs ys e2 e3
        exact ⟨a, b, xs, ys, s1, r1, e2, e3, G1, fun J it => q J H1 G1 x1 it⟩
      · exact q.elim
    · exact q.elim
  refine Call_ (ld_blt I hg hm PyProof.Rows.boot_zip (PyProof.Rows.callWith_type1 (thn (ha.run pos pins s σ H _ I hr) fun us s1 ⟨vs, H1, I1, r1, q1⟩ => ?_) hs hpl))
  obtain ⟨a, b, ds, es, t1, rp, e1, e2, G1, q1⟩ := q1
  obtain ⟨x, y, rfl, p1, p2⟩ := rp2 rp
  obtain ⟨u1, u2, rfl, v1, v2⟩ := vals2 r1
  obtain ⟨k1, xs, rfl, h1, g1⟩ := sk_of p1 v1 e1
  obtain ⟨k2, ys, rfl, h2, g2⟩ := sk_of p2 v2 e2
  obtain ⟨o1, P1, B1, b1, c1⟩ := sk_begins I1 (h1 H1 Ext.refl)
  obtain ⟨o2, P2, B2, b2, c2⟩ := sk_begins I1 (h2 H1 Ext.refl)
  have l1 := SrcS.lt I1 (h1 H1 Ext.refl)
  have l2 := SrcS.lt I1 (h2 H1 Ext.refl)
  refine zip_begins2 B1 B2 b1 b2 fun h' hz hTI hTO hi1 hi2 hsz hk => wpAny_pyIter_zip hz ?_
  have I2 : Inv X pins σ H1 { s1 with heap := h' } := I1.kept (t' := s1.toks) hk
  have fresh5 : ∀ c, c ∈ [s1.heap.objs.size + 4, s1.heap.objs.size + 2, s1.heap.objs.size + 3, s1.heap.objs.size, s1.heap.objs.size + 1] → FpOk X pins H1 c := fun c hcm => by
    have e' : c = s1.heap.objs.size + 4 ∨ c = s1.heap.objs.size + 2 ∨ c = s1.heap.objs.size + 3 ∨ c = s1.heap.objs.size ∨ c = s1.heap.objs.size + 1 := by simpa using hcm
    have hle : s1.heap.objs.size ≤ c := by
      rcases e' with z | z | z | z | z
      · rw [z]; exact Nat.le_add_right _ _
      · rw [z]; exact Nat.le_add_right _ _
      · rw [z]; exact Nat.le_add_right _ _
      · rw [z]; exact Nat.le_refl _
      · rw [z]; exact Nat.le_add_right _ _
    exact I1.fpOk hle (I1.hok.fresh hle)
  exact ⟨s1.heap.objs.size + 4, [s1.heap.objs.size + 4, s1.heap.objs.size + 2, s1.heap.objs.size + 3, s1.heap.objs.size, s1.heap.objs.size + 1], _, _, H1, rfl, I2,
    turn_zz (fun z => absurd (l1 _ z) (Nat.lt_irrefl _)) (fun z => absurd (l2 _ z) (by exact Nat.not_lt.mpr (Nat.le_add_right _ _))) (zip_sep2 l1 l2), ⟨hz, hTI, ⟨_, _, hTO⟩, c1 _ _ hi1, c2 _ _ hi2⟩, fresh5, q1 _ (itd_zip h1 h2 g1 g2)⟩
end
end Cw

namespace Cw
open PySem PySem.Spec PyProof.Rows L2

/-! ### a, b = x, y with swapped stores -/
def sPar (i j : Nat) (fs : Sem1 (List SV)) : SemS := fun ρ s => (fs ρ s).bindS ρ fun xs s1 => match xs with
  | [.va a, .va b] => .nx ((ρ.set i (.va a)).set j (.va b)) s1
  | _ => .bad
def sPar3 (i j l : Nat) (fs : Sem1 (List SV)) : SemS := fun ρ s => (fs ρ s).bindS ρ fun xs s1 => match xs with
  | [.va a, .va b, .va c] => .nx (((ρ.set i (.va a)).set j (.va b)).set l (.va c)) s1
  | _ => .bad
section
variable {X : Cx} {W : WX}
theorem es_par {i j : Nat} {x y : Str} {a b : Expr} {fs : Sem1 (List SV)} {px py pt pos : Pos} {kt k2 pt2} (hc : X.calm = true) (hN : X.N.Nodup) (hi : X.N[i]? = some x) (hj : X.N[j]? = some y) (hij : i ≠ j)
    (hx : X.env.scope.names.lookup x = some .local) (hy : X.env.scope.names.lookup y = some .local) (ha : EvA X W [a, b] fs)
    (hw : swappedStores [.Tuple [.Name x px, .Name y py] kt pt] (.Tuple [a, b] k2 pt2) X.env = pure (some [x, y]))
    (hs : swapsWithSole [.Tuple [.Name x px, .Name y py] kt pt] (.Tuple [a, b] k2 pt2) pos.line X.env = pure false := by rfl) :
    EvS X W (.Assign [.Tuple [.Name x px, .Name y py] kt pt] (.Tuple [a, b] k2 pt2) pos) (sPar i j fs) := by
  refine (ps_par hc hN hi hj hij hx hy ha hw hs).imp fun D σ H q => ?_
  obtain ⟨wd, A0, A, H0, ρ, s, G, q⟩ := q
  unfold sPar at q
  refine tA_bind G (fun xs s1 vs H1 e1 G1 x1 r => ?_) (fun c s1 H1 e1 G1 x1 => by rw [e1] at q; exact q A σ H1 G1 (Fr.of_ext x1 G.dfA)) (fun e1 => by rw [e1] at q; exact q)
  rw [e1, Res.bindS_ok] at q
  rcases r with _ | ⟨r1, _ | ⟨r2, _ | ⟨r3, r⟩⟩⟩
  · exact q.elim
  · rename_i u v; cases u <;> exact q.elim
  · rename_i u v u2 v2
    cases u <;> cases u2 <;> first | exact q.elim | skip
    exact ⟨v, v2, rfl, q A _ H1 ((G1.put r1).put r2) (Fr.of_ext x1 G.dfA)⟩
  · rename_i u v u2 v2 u3 v3 us vs
    cases u <;> cases u2 <;> exact q.elim
theorem es_par3 {i j l : Nat} {x y z : Str} {a b c : Expr} {fs : Sem1 (List SV)} {px py pz pt pos : Pos} {kt k2 pt2} (hc : X.calm = true) (hN : X.N.Nodup) (hi : X.N[i]? = some x) (hj : X.N[j]? = some y) (hl : X.N[l]? = some z) (hij : i ≠ j) (hil : i ≠ l) (hjl : j ≠ l)
    (hx : X.env.scope.names.lookup x = some .local) (hy : X.env.scope.names.lookup y = some .local) (hz : X.env.scope.names.lookup z = some .local) (ha : EvA X W [a, b, c] fs)
    (hw : swappedStores [.Tuple [.Name x px, .Name y py, .Name z pz] kt pt] (.Tuple [a, b, c] k2 pt2) X.env = pure (some [x, y, z]))
    (hs : swapsWithSole [.Tuple [.Name x px, .Name y py, .Name z pz] kt pt] (.Tuple [a, b, c] k2 pt2) pos.line X.env = pure false := by rfl) :
    EvS X W (.Assign [.Tuple [.Name x px, .Name y py, .Name z pz] kt pt] (.Tuple [a, b, c] k2 pt2) pos) (sPar3 i j l fs) := by
  refine (ps_par3 hc hN hi hj hl hij hil hjl hx hy hz ha hw hs).imp fun D σ H q => ?_
  obtain ⟨wd, A0, A, H0, ρ, s, G, q⟩ := q
  unfold sPar3 at q
  refine tA_bind G (fun xs s1 vs H1 e1 G1 x1 r => ?_) (fun c s1 H1 e1 G1 x1 => by rw [e1] at q; exact q A σ H1 G1 (Fr.of_ext x1 G.dfA)) (fun e1 => by rw [e1] at q; exact q)
  rw [e1, Res.bindS_ok] at q
  rcases r with _ | ⟨r1, _ | ⟨r2, _ | ⟨r3, _ | ⟨r4, r⟩⟩⟩⟩
  · exact q.elim
  · rename_i u v; cases u <;> exact q.elim
  · rename_i u v u2 v2; cases u <;> cases u2 <;> exact q.elim
  · rename_i u v u2 v2 u3 v3
    cases u <;> cases u2 <;> cases u3 <;> first | exact q.elim | skip
    exact ⟨v, v2, v3, rfl, q A _ H1 (((G1.put r1).put r2).put r3) (Fr.of_ext x1 G.dfA)⟩
  · rename_i u v u2 v2 u3 v3 u4 v4 us vs
    cases u <;> cases u2 <;> cases u3 <;> exact q.elim
end

/-! ### two clauses -/
/-- a target puts no own object -/
def GOk (g : SemG) (ws : List Nat) : Prop := ∀ d ρ ρ', g d ρ = some ρ' → ∀ (i : Nat) (o : OV), ρ'[i]? = some (.ow o) → i ∉ ws ∧ ρ[i]? = some (.ow o)
def GsOk (g : SemGs) (ws : List Nat) : Prop := ∀ d ρ ρ', g d ρ = some ρ' → ∀ (i : Nat) (o : OV), ρ'[i]? = some (.ow o) → i ∉ ws ∧ ρ[i]? = some (.ow o)
theorem gok_var {i : Nat} : GOk (gVar i) [i] := fun d ρ ρ' h j o q => by
  cases h
  rcases get_set q with ⟨_, z, _⟩ | ⟨n, q⟩
  · cases z
  · exact ⟨by simpa using n, q⟩
theorem gsok_nil : GsOk gsNil [] := fun d ρ ρ' h j o q => by
  cases d with
  | nil => cases h; exact ⟨by simp, q⟩
  | cons _ _ => cases h
theorem gsok_cons {g : SemG} {gs : SemGs} {ws vs : List Nat} (h1 : GOk g ws) (h2 : GsOk gs vs) : GsOk (gsCons g gs) (ws ++ vs) := fun d ρ ρ' h j o q => by
  cases d with
  | nil => cases h
  | cons d r =>
    unfold gsCons at h
    cases e : g d ρ with
    | none => simp only [e] at h; cases h
    | some ρ1 =>
      simp only [e, Option.bind_some] at h
      obtain ⟨n1, q1⟩ := h2 _ _ _ h j o q
      obtain ⟨n2, q2⟩ := h1 _ _ _ e j o q1
      exact ⟨by simp [n1, n2], q2⟩
theorem gok_tup {n : Nat} {gs : SemGs} {ws : List Nat} (h1 : GsOk gs ws) : GOk (gTupD n gs) ws := fun d ρ ρ' h j o q => by
  unfold gTupD at h
  cases d with
  | tuple ds =>
    by_cases hl : ds.length = n
    · simp only [if_pos hl] at h; exact h1 _ _ _ h j o q
    · simp only [if_neg hl] at h; cases h
  | _ => cases h
def lc2L (g : SemG) (ft : Sem1 Bool) (fi1 : Sem1 (List D)) (g1 : SemG) (ft1 : Sem1 Bool) (fe : Sem1 D) (vs1 : List Nat) (ρ : En) : List D → Dk → Res (List D)
  | [], s => .ok [] s
  | d :: ds, s => match g d ρ with
    | none => .bad
    | some ρ1 => match ft ρ1 s with
      | .ok true s1 => match fi1 ρ1 s1 with
        | .ok ds1 s2 => (lcL g1 ft1 fe (wipeE ρ1 vs1) ds1 s2).bind fun ys s3 => (lc2L g ft fi1 g1 ft1 fe vs1 ρ ds s3).bind fun zs s4 => .ok (ys ++ zs) s4
        | _ => .bad
      | .ok false s1 => lc2L g ft fi1 g1 ft1 fe vs1 ρ ds s1
      | _ => .bad
def finL (ads : List D) (zs : List D) (s : Dk) : Res (List D) := if lineOk (ads ++ zs).length = true then .ok (ads ++ zs) s else .bad
def fLc2 (fi : Sem1 (List D)) (g : SemG) (ft : Sem1 Bool) (fi1 : Sem1 (List D)) (g1 : SemG) (ft1 : Sem1 Bool) (fe : Sem1 D) (vs vs1 : List Nat) : Sem1 (List D) := fun ρ s => (fi ρ s).bind fun ds s1 => (lc2L g ft fi1 g1 ft1 fe vs1 (wipeE ρ vs) ds s1).bind (finL [])
theorem lcL_ne {g : SemG} {ft : Sem1 Bool} {fe : Sem1 D} {ρ : En} {c : Str} {t : Dk} : ∀ {ds : List D} {s : Dk}, lcL g ft fe ρ ds s ≠ .exc c t
  | [], s, h => by cases h
  | d :: ds, s, h => by
    unfold lcL at h
    cases e1 : g d ρ with
    | none => simp only [e1] at h; cases h
    | some ρ1 =>
      simp only [e1] at h
      cases e2 : ft ρ1 s with
      | bad => simp only [e2] at h; cases h
      | exc _ _ => simp only [e2] at h; cases h
      | ok b s1 =>
        cases b with
        | false => simp only [e2] at h; exact lcL_ne h
        | true =>
          simp only [e2] at h
          cases e3 : fe ρ1 s1 with
          | bad => simp only [e3] at h; cases h
          | exc _ _ => simp only [e3] at h; cases h
          | ok y s2 =>
            simp only [e3] at h
            cases e4 : lcL g ft fe ρ ds s2 with
            | bad => rw [e4] at h; cases h
            | exc _ _ => exact lcL_ne e4
            | ok ys s3 => rw [e4] at h; cases h
theorem lc2L_ne {g : SemG} {ft : Sem1 Bool} {fi1 : Sem1 (List D)} {g1 : SemG} {ft1 : Sem1 Bool} {fe : Sem1 D} {vs1 : List Nat} {ρ : En} {c : Str} {t : Dk} : ∀ {ds : List D} {s : Dk}, lc2L g ft fi1 g1 ft1 fe vs1 ρ ds s ≠ .exc c t
  | [], s, h => by cases h
  | d :: ds, s, h => by
    unfold lc2L at h
    cases e1 : g d ρ with
    | none => simp only [e1] at h; cases h
    | some ρ1 =>
      simp only [e1] at h
      cases e2 : ft ρ1 s with
      | bad => simp only [e2] at h; cases h
      | exc _ _ => simp only [e2] at h; cases h
      | ok b s1 =>
        cases b with
        | false => simp only [e2] at h; exact lc2L_ne h
        | true =>
          simp only [e2] at h
          cases e3 : fi1 ρ1 s1 with
          | bad => simp only [e3] at h; cases h
          | exc _ _ => simp only [e3] at h; cases h
          | ok ds1 s2 =>
            simp only [e3] at h
            cases e4 : lcL g1 ft1 fe (wipeE ρ1 vs1) ds1 s2 with
            | bad => rw [e4] at h; cases h
            | exc _ _ => exact lcL_ne e4
            | ok ys s3 =>
              rw [e4, Res.bind_ok] at h
              cases e5 : lc2L g ft fi1 g1 ft1 fe vs1 ρ ds s3 with
              | bad => rw [e5] at h; cases h
              | exc _ _ => exact lc2L_ne e5
              | ok zs s4 => rw [e5] at h; cases h
theorem Res.bind_assoc {α β γ : Type} (r : Res α) (k : α → Dk → Res β) (l : β → Dk → Res γ) : (r.bind k).bind l = r.bind fun a s => (k a s).bind l := by cases r <;> rfl
section
variable {X : Cx} {W : WX}
theorem tO_lc2 {fi fi1 : Sem1 (List D)} {g g1 : SemG} {ws ws1 : List Nat} {ft ft1 : Sem1 Bool} {fe : Sem1 D} {vs vs1 : List Nat} {K : Fg} {mg : Str → Option Value} {σ : St} {H : Hp} {Q : VK} (hw : ∀ i ∈ ws, i ∈ vs) (hw1 : ∀ i ∈ ws1, i ∈ vs1) (go : GOk g ws) (go1 : GOk g1 ws1)
    (q : tO K mg (fLc2 fi g ft fi1 g1 ft1 fe vs vs1) W σ H Q) : tLc2 (tI K mg fi W) (tG K mg g ws) (tT K mg ft WF) (tI K mg fi1 WF) (tG K mg g1 ws1) (tT K mg ft1 WF) (tE K mg fe WF) vs vs1 σ H Q := by
  obtain ⟨wd, A0, A, H0, ρ, s, G, q⟩ := q
  unfold fLc2 at q
  refine tI_bind G (fun ds s1 J H1 e1 G1 x1 it => ?_) (fun c s1 H1 e1 G1 x1 => by rw [e1] at q; exact q H1 G1 x1) (fun e1 => by rw [e1] at q; exact q)
  rw [e1, Res.bind_ok] at q
  intro p np
  have np0 : H p = none := by
    cases z : H p with
    | none => rfl
    | some o =>
      obtain ⟨o', z'⟩ := x1.there p o z
      rw [np] at z'; cases z'
  have n0 : H0 p = none := by
    cases z : H0 p with
    | none => rfl
    | some o =>
      obtain ⟨o', z'⟩ := G.ext.there p o z
      rw [np0] at z'; cases z'
  have nd : ¬ wd.df p := fun z => by
    obtain ⟨o, z'⟩ := G1.ah p (G1.dfA p z)
    rw [np] at z'; cases z'
  have nA : ¬ A p := fun z => by
    obtain ⟨o, z'⟩ := G1.ah p z
    rw [np] at z'; cases z'
  have nown : ∀ {ρ' : En} {σ' : St} {s' : Dk} {H' : Hp} {A' : Addr → Prop}, (∀ (i : Nat) (o : OV), ρ'[i]? = some (.ow o) → ρ[i]? = some (.ow o) ∧ σ'[i]? = σ[i]?) → ∀ (i : Nat) (o : OV), ρ'[i]? = some (.ow o) → σ'[i]? = some (some (.ref p)) → False := fun {ρ' σ' s' H' A'} hh i o h1 h2 => by
    obtain ⟨h3, h4⟩ := hh i o h1
    obtain ⟨a, h5, h6, _⟩ := G1.slot i _ h3
    rw [h4, h5] at h2
    cases h2
    exact nA h6
  have ownW : ∀ (i : Nat) (o : OV), (wipeE ρ vs)[i]? = some (.ow o) → ρ[i]? = some (.ow o) ∧ (L2.wipe σ vs)[i]? = σ[i]? := fun i o h => by
    rcases wipeE_get h with z | ⟨z1, z2⟩
    · cases z
    · exact ⟨z2, wipe_out z1⟩
  -- one more in the new list
  have upE : ∀ {H' : Hp} {acc : List V} {u : HO}, H' p = some (.lst acc) → Ext (fun a => a = p) H' (upd H' p u) := fun {H' acc u} hp => ⟨fun a o q n => by rw [upd_ne n]; exact q, fun a ys q => by rw [upd_ne (fun z => by rw [z, hp] at q; cases q)]; exact q, fun a ob w q => by rw [upd_ne (fun z => by rw [z, hp] at q; cases q)]; exact q, fun a o q => by
      by_cases z : a = p
      · exact ⟨_, by rw [z]; exact upd_same⟩
      · exact ⟨o, by rw [upd_ne z]; exact q⟩⟩
  let Rest := fun (i : Nat) => lc2L g ft fi1 g1 ft1 fe vs1 (wipeE ρ vs) (ds.drop i)
  let WW := fun (i : Nat) (H' : Hp) => ∃ s' acc ads, Good K mg wd A0 (fun a => A a ∨ a = p) H0 (wipeE ρ vs) s' (L2.wipe σ vs) H' ∧ H' p = some (.lst acc) ∧ RpAll K H' (fun a => A a ∨ a = p) acc ads ∧ Ext wd.df H1 H' ∧
    ResO K mg wd A0 A H0 ρ σ H W Q ((Rest i s').bind (finL ads))
  refine ⟨fun i m H' => m = ds.length - i ∧ i ≤ ds.length ∧ WW i H',
    ⟨_, rfl, Nat.zero_le _, s1, [], [], (G1.guard np).wipe vs, upd_same, .nil, Ext.same (new_same np), q⟩, ?_⟩
  rintro i m H2 ⟨rfl, hi, s2, acc, ads, G2, hp2, r2, x2, q2⟩
  have x2A : Ext A H1 H2 := x2.mono G1.dfA
  by_cases hlt : i < ds.length
  · right
    refine ⟨it.goes i H2 hlt x2A, WW (i + 1), fun H' h => ⟨ds.length - (i + 1), by omega, rfl, hlt, h⟩, fun x H3 y => ?_⟩
    obtain ⟨sm, rp⟩ := it.yields i H2 x H3 ds[i] (List.getElem?_eq_getElem hlt) x2A y
    have r3 := rp (fun a => A a ∨ a = p) fun a z => z.elim .inl fun z => .inr (by rw [z]; exact np)
    have G3 := G2.same sm
    have x3 : Ext wd.df H1 H3 := x2.trans (Ext.same sm)
    have q2 : ResO K mg wd A0 A H0 ρ σ H W Q ((lc2L g ft fi1 g1 ft1 fe vs1 (wipeE ρ vs) (ds.drop i) s2).bind (finL ads)) := q2
    rw [drop_cons hlt] at q2
    unfold lc2L at q2
    refine ⟨wd, A0, _, H0, _, s2, ds[i], G3, r3, ?_⟩
    cases e3 : g ds[i] (wipeE ρ vs) with
    | none => simp only [e3] at q2; exact q2
    | some ρ3 =>
      simp only [e3] at q2
      intro σ3 G4 only
      have own3 : ∀ (i : Nat) (o : OV), ρ3[i]? = some (.ow o) → ρ[i]? = some (.ow o) ∧ σ3[i]? = σ[i]? := fun i o h => by
        obtain ⟨h1, h2⟩ := go _ _ _ e3 i o h
        obtain ⟨h3, h4⟩ := ownW i o h2
        exact ⟨h3, (only.2 i h1).trans h4⟩
      refine ⟨wipe_same only hw, ?_⟩
      refine tT_bind G4 (fun b s4 H4 e4 G5 x4 => ?_) (fun c s4 H4 e4 G5 x4 => by simp only [e4] at q2; exact q2) (fun e4 => by simp only [e4] at q2; exact q2)
      have hp4 : H4 p = some (.lst acc) := x4.keep _ _ (sm _ _ hp2) nd
      have rep4 : Good K mg wd A0 (fun a => A a ∨ a = p) H0 (wipeE ρ vs) s4 (L2.wipe σ vs) H4 := G3.step x4 G5.deck
      have r4 := (r2.same sm).ext x4 fun a z => .inl (G1.dfA a z)
      cases b with
      | false =>
        simp only [e4] at q2
        rw [if_neg (by decide)]
        exact ⟨s4, acc, ads, rep4, hp4, r4, x3.trans x4, q2⟩
      | true =>
        simp only [e4] at q2
        rw [if_pos rfl]
        refine tI_bind G5 (fun ds1 s5 J1 H5 e5 G6 x5 it1 => ?_) (fun c s4 H4 e4 G5 x4 => by simp only [e4] at q2; exact q2) (fun e4 => by simp only [e4] at q2; exact q2)
        simp only [e5] at q2
        have hp5 : H5 p = some (.lst acc) := x5.keep _ _ hp4 nd
        have rep5 : Good K mg wd A0 (fun a => A a ∨ a = p) H0 (wipeE ρ vs) s5 (L2.wipe σ vs) H5 := rep4.step x5 G6.deck
        have r5 := r4.ext x5 fun a z => .inl (G1.dfA a z)
        -- the inner loop
        refine ⟨fun j k H' => k = ds1.length - j ∧ j ≤ ds1.length ∧ ∃ s' acc ads, Good K mg wd A0 (fun a => A a ∨ a = p) H0 (wipeE ρ vs) s' (L2.wipe σ vs) H' ∧ Good K mg wd A0 (fun a => A a ∨ a = p) H0 (wipeE ρ3 vs1) s' (L2.wipe σ3 vs1) H' ∧ H' p = some (.lst acc) ∧ RpAll K H' (fun a => A a ∨ a = p) acc ads ∧ Ext wd.df H1 H' ∧ Ext (fun a => A a ∨ a = p) H5 H' ∧
          ResO K mg wd A0 A H0 ρ σ H W Q ((lcL g1 ft1 fe (wipeE ρ3 vs1) (ds1.drop j) s').bind fun ys s3 => (Rest (i + 1) s3).bind fun zs s4 => finL ads (ys ++ zs) s4),
          ⟨_, rfl, Nat.zero_le _, s5, acc, ads, rep5, G6.wipe vs1, hp5, r5, x3.trans (x4.trans x5), Ext.refl, ?_⟩, ?_⟩
        · rw [List.drop_zero]
          rw [Res.bind_assoc] at q2
          have e : (fun (ys : List D) (s : Dk) => ((lc2L g ft fi1 g1 ft1 fe vs1 (wipeE ρ vs) (List.drop (i + 1) ds) s).bind fun zs s4 => Res.ok (ys ++ zs) s4).bind (finL ads)) = fun ys s3 => (Rest (i + 1) s3).bind fun zs s4 => finL ads (ys ++ zs) s4 := by
            funext ys s
            rw [Res.bind_assoc]; rfl
          rw [e] at q2
          exact q2
        · rintro j k H6 ⟨rfl, hj, s6, acc, ads, Go, Gi, hp6, r6, x6, y6, q6⟩
          by_cases hjt : j < ds1.length
          · right
            refine ⟨it1.goes j H6 hjt y6, fun H' => ∃ s' acc ads, Good K mg wd A0 (fun a => A a ∨ a = p) H0 (wipeE ρ vs) s' (L2.wipe σ vs) H' ∧ Good K mg wd A0 (fun a => A a ∨ a = p) H0 (wipeE ρ3 vs1) s' (L2.wipe σ3 vs1) H' ∧ H' p = some (.lst acc) ∧ RpAll K H' (fun a => A a ∨ a = p) acc ads ∧ Ext wd.df H1 H' ∧ Ext (fun a => A a ∨ a = p) H5 H' ∧
              ResO K mg wd A0 A H0 ρ σ H W Q ((lcL g1 ft1 fe (wipeE ρ3 vs1) (ds1.drop (j + 1)) s').bind fun ys s3 => (Rest (i + 1) s3).bind fun zs s4 => finL ads (ys ++ zs) s4), fun H' h => ⟨ds1.length - (j + 1), by omega, rfl, hjt, h⟩, fun x H7 y => ?_⟩
            obtain ⟨sm7, rp7⟩ := it1.yields j H6 x H7 ds1[j] (List.getElem?_eq_getElem hjt) y6 y
            have r7 := rp7 (fun a => A a ∨ a = p) fun a z => .inl z
            have Gi7 := Gi.same sm7
            have Go7 := Go.same sm7
            rw [drop_cons hjt] at q6
            unfold lcL at q6
            refine ⟨wd, A0, _, H0, _, s6, ds1[j], Gi7, r7, ?_⟩
            cases e7 : g1 ds1[j] (wipeE ρ3 vs1) with
            | none => simp only [e7] at q6; exact q6
            | some ρ7 =>
              simp only [e7] at q6
              intro σ7 G8 only1
              refine ⟨wipe_same only1 hw1, ?_⟩
              refine tT_bind G8 (fun b s8 H8 e8 G9 x8 => ?_) (fun c s4 H4 e4 G5 x4 => by simp only [e4] at q6; exact q6) (fun e4 => by simp only [e4] at q6; exact q6)
              have hp8 : H8 p = some (.lst acc) := x8.keep _ _ (sm7 _ _ hp6) nd
              have Go8 := Go7.step x8 G9.deck
              have Gi8 := Gi7.step x8 G9.deck
              have r8 := (r6.same sm7).ext x8 fun a z => .inl (G1.dfA a z)
              have x8' : Ext wd.df H1 H8 := x6.trans ((Ext.same sm7).trans x8)
              have y8' : Ext (fun a => A a ∨ a = p) H5 H8 := y6.trans ((Ext.same sm7).trans (x8.mono fun a z => .inl (G1.dfA a z)))
              cases b with
              | false =>
                simp only [e8] at q6
                rw [if_neg (by decide)]
                exact ⟨s8, acc, ads, Go8, Gi8, hp8, r8, x8', y8', q6⟩
              | true =>
                simp only [e8] at q6
                rw [if_pos rfl]
                refine tE_bind G9 (fun yd s9 y' H9 e9 G10 x9 r9 => ?_) (fun c s4 H4 e4 G5 x4 => by simp only [e4] at q6; exact q6) (fun e4 => by simp only [e4] at q6; exact q6)
                simp only [e9] at q6
                have hp9 : H9 p = some (.lst acc) := x9.keep _ _ hp8 nd
                have Go9 := Go8.step x9 G10.deck
                have Gi9 := Gi8.step x9 G10.deck
                have r10 := (r8.ext x9 fun a z => .inl (G1.dfA a z)).append (.cons r9 .nil)
                -- the room for one more
                have q6' : ResO K mg wd A0 A H0 ρ σ H W Q ((lcL g1 ft1 fe (wipeE ρ3 vs1) (ds1.drop (j + 1)) s9).bind fun ys s3 => (Rest (i + 1) s3).bind fun zs s4 => finL (ads ++ [yd]) (ys ++ zs) s4) ∧ acc.length < sizeLine := by
                  rw [Res.bind_assoc] at q6
                  cases a1 : lcL g1 ft1 fe (wipeE ρ3 vs1) (List.drop (j + 1) ds1) s9 with
                  | bad => rw [a1] at q6; exact q6.elim
                  | exc c t => exact (lcL_ne a1).elim
                  | ok ys t =>
                    rw [a1, Res.bind_ok, Res.bind_ok] at q6
                    rw [Res.bind_ok]
                    cases a2 : Rest (i + 1) t with
                    | bad => rw [a2] at q6; exact q6.elim
                    | exc c t => exact (lc2L_ne a2).elim
                    | ok zs t =>
                      rw [a2, Res.bind_ok] at q6
                      rw [Res.bind_ok]
                      unfold finL at q6 ⊢
                      by_cases hl : lineOk (ads ++ (yd :: ys ++ zs)).length = true
                      · rw [if_pos hl] at q6
                        have e : ads ++ [yd] ++ (ys ++ zs) = ads ++ (yd :: ys ++ zs) := by simp
                        rw [e, if_pos hl]
                        refine ⟨q6, ?_⟩
                        have := lineOk_le hl
                        rw [List.length_append] at this
                        have h2 : acc.length = ads.length := r6.len
                        have h3 : (yd :: ys ++ zs).length = (ys ++ zs).length + 1 := rfl
                        omega
                      · rw [if_neg hl] at q6; exact q6.elim
                refine ⟨acc, hp9, q6'.2, s9, acc ++ [y'], ads ++ [yd], ?_, ?_, upd_same, ?_, ?_, ?_, q6'.1⟩
                · exact Go9.guarded (.inr rfl) n0 nd (nown (s' := s9) (H' := H9) (A' := A) ownW) hp9 trivial
                · refine Gi9.guarded (.inr rfl) n0 nd (nown (s' := s9) (H' := H9) (A' := A) fun i o h => ?_) hp9 trivial
                  rcases wipeE_get h with z | ⟨z1, z2⟩
                  · cases z
                  · obtain ⟨h3, h4⟩ := own3 i o z2
                    exact ⟨h3, (wipe_out z1).trans h4⟩
                · exact r10.ext (upE hp9) fun a z => .inr z
                · exact (x8'.trans x9).updNew np
                · exact (y8'.trans (x9.mono fun a z => .inl (G1.dfA a z))).trans ((upE hp9).mono fun a z => .inr z)
          · left
            have e : j = ds1.length := by omega
            subst e
            rw [List.drop_length] at q6
            simp only [lcL, Res.bind_ok, List.nil_append] at q6
            exact ⟨it1.stops H6 y6, s6, acc, ads, Go, hp6, r6, x6, q6⟩
  · left
    have e : i = ds.length := by omega
    subst e
    have q2 : ResO K mg wd A0 A H0 ρ σ H W Q ((lc2L g ft fi1 g1 ft1 fe vs1 (wipeE ρ vs) (ds.drop ds.length) s2).bind (finL ads)) := q2
    rw [List.drop_length] at q2
    refine ⟨it.stops H2 x2A, ?_⟩
    simp only [lc2L, Res.bind_ok, finL, List.append_nil] at q2
    by_cases hl : lineOk ads.length = true
    · rw [if_pos hl] at q2
      exact q2 p acc H2 (G1.step x2 G2.deck) (x1.trans x2) np0 hp2 r2
    · rw [if_neg hl] at q2; exact q2.elim
theorem eo_lc2 {elt tg iter tg1 iter1 : Expr} {ifs ifs1 : List Expr} {scope : Scope} {own : List (Str × Nat)} {vs1 : List Nat} {pos : Pos} {fi fi1 : Sem1 (List D)} {g g1 : SemG} {ws ws1 : List Nat} {ft ft1 : Sem1 Bool} {fe : Sem1 D} (hc : X.calm = true) (hN : X.N.Nodup) (hi : EvI X W tg iter fi) (ok : BlkOk X.N X.env.scope scope own) (go : GOk g ws) (go1 : GOk g1 ws1)
    (hg : ∀ (s : Shared) (H : Hp) (C : Addr) (cl : List (Str × Addr)) (fp : List Addr), EvG (X.blk s H scope (compEnvC scope cl C X.env) fp) tg g ws) (ht : ∀ (s : Shared) (H : Hp) (C : Addr) (cl : List (Str × Addr)) (fp : List Addr), EvC (X.blk s H scope (compEnvC scope cl C X.env) fp) ifs ft)
    (hi1 : ∀ (s : Shared) (H : Hp) (C : Addr) (cl : List (Str × Addr)) (fp : List Addr), EvI (X.blk s H scope (compEnvC scope cl C X.env) fp) WF tg1 iter1 fi1)
    (hg1 : ∀ (s : Shared) (H : Hp) (C : Addr) (cl : List (Str × Addr)) (fp : List Addr), EvG (X.blk s H scope (compEnvC scope cl C X.env) fp) tg1 g1 ws1) (ht1 : ∀ (s : Shared) (H : Hp) (C : Addr) (cl : List (Str × Addr)) (fp : List Addr), EvC (X.blk s H scope (compEnvC scope cl C X.env) fp) ifs1 ft1)
    (he : ∀ (s : Shared) (H : Hp) (C : Addr) (cl : List (Str × Addr)) (fp : List Addr), EvE (X.blk s H scope (compEnvC scope cl C X.env) fp) WF elt fe) (hs : ∀ x, foldedSetIterable iter X.env x = pure x := by intro _; rfl) (hs1 : ∀ env x, foldedSetIterable iter1 env x = pure x := by intro _ _; rfl)
    (hw : ∀ i ∈ ws, i ∈ own.map (·.2) := by decide) (hw1 : ∀ i ∈ ws1, i ∈ vs1 := by decide) (hv : ∀ i ∈ vs1, i ∈ own.map (·.2) := by decide) :
    EvO X W (.ListComp elt [⟨tg, iter, ifs, 0⟩, ⟨tg1, iter1, ifs1, 0⟩] scope pos) (fLc2 fi g ft fi1 g1 ft1 fe (own.map (·.2)) vs1) :=
  (pe_lc2 hc hN hi ok hv hg ht hi1 hg1 ht1 he hs hs1).imp fun σ H Q q => tO_lc2 hw hw1 go go1 q
theorem ps_setLc2O {i : Nat} {y : Str} {py : Pos} {elt tg iter tg1 iter1 : Expr} {ifs ifs1 : List Expr} {scope : Scope} {own : List (Str × Nat)} {vs1 : List Nat} {pos spos : Pos} {fi fi1 : Sem1 (List D)} {g g1 : SemG} {ws ws1 : List Nat} {ft ft1 : Sem1 Bool} {fe : Sem1 D} (hc : X.calm = true) (hN : X.N.Nodup) (hy : X.N[i]? = some y) (hyl : X.env.scope.names.lookup y = some .local)
    (hsw : swapsWith (.ListComp elt [⟨tg, iter, ifs, 0⟩, ⟨tg1, iter1, ifs1, 0⟩] scope pos) (some (.Name y py)) spos.line X.env = pure true) (hi : EvI X W tg iter fi) (ok : BlkOk X.N X.env.scope scope own) (go : GOk g ws) (go1 : GOk g1 ws1)
    (hg : ∀ (s : Shared) (H : Hp) (C : Addr) (cl : List (Str × Addr)) (fp : List Addr), EvG (X.blk s H scope (compEnvC scope cl C X.env) fp) tg g ws) (ht : ∀ (s : Shared) (H : Hp) (C : Addr) (cl : List (Str × Addr)) (fp : List Addr), EvC (X.blk s H scope (compEnvC scope cl C X.env) fp) ifs ft)
    (hi1 : ∀ (s : Shared) (H : Hp) (C : Addr) (cl : List (Str × Addr)) (fp : List Addr), EvI (X.blk s H scope (compEnvC scope cl C X.env) fp) WF tg1 iter1 fi1)
    (hg1 : ∀ (s : Shared) (H : Hp) (C : Addr) (cl : List (Str × Addr)) (fp : List Addr), EvG (X.blk s H scope (compEnvC scope cl C X.env) fp) tg1 g1 ws1) (ht1 : ∀ (s : Shared) (H : Hp) (C : Addr) (cl : List (Str × Addr)) (fp : List Addr), EvC (X.blk s H scope (compEnvC scope cl C X.env) fp) ifs1 ft1)
    (he : ∀ (s : Shared) (H : Hp) (C : Addr) (cl : List (Str × Addr)) (fp : List Addr), EvE (X.blk s H scope (compEnvC scope cl C X.env) fp) WF elt fe) (hs : ∀ x, foldedSetIterable iter X.env x = pure x := by intro _; rfl) (hs1 : ∀ env x, foldedSetIterable iter1 env x = pure x := by intro _ _; rfl)
    (hw : ∀ i ∈ ws, i ∈ own.map (·.2) := by decide) (hw1 : ∀ i ∈ ws1, i ∈ vs1 := by decide) (hv : ∀ i ∈ vs1, i ∈ own.map (·.2) := by decide) :
    PS X (.Assign [.Name y py] (.ListComp elt [⟨tg, iter, ifs, 0⟩, ⟨tg1, iter1, ifs1, 0⟩] scope pos) spos) (tAsg (tO X.K X.mg (fLc2 fi g ft fi1 g1 ft1 fe (own.map (·.2)) vs1) W) (gName i)) :=
  (ps_setLc2 hc hN hy hyl hsw hi ok hv hg ht hi1 hg1 ht1 he hs hs1).imp fun D σ H q => tO_lc2 hw hw1 go go1 q
/-- name = fresh list, stored straight: shared, or as its own -/
theorem es_pL {e : Stmt} {i : Nat} {fl : Sem1 (List D)} (h : PS X e (tAsg (tO X.K X.mg fl W) (gName i))) : EvS X W e (sAsg (fLst fl) (gVar i)) := h.imp fun D σ H q => tAsgL_of q
theorem es_pO {e : Stmt} {i : Nat} {fl : Sem1 (List D)} (h : PS X e (tAsg (tO X.K X.mg fl W) (gName i))) : EvS X W e (sOwn i fl) := h.imp fun D σ H q => tAsgO_of q

/-! ### calls with keywords -/
abbrev EvK (X : Cx) (W : WX) (kws : List Keyword) (f : Sem1 (List SV)) : Prop := PK X kws (tA X.K X.mg f W)
theorem _root_.L2.PK.imp {e : List Keyword} {t t' : TA} (h : PK X e t) (i : ∀ σ H Q, t' σ H Q → t σ H Q) : PK X e t' := ⟨fun p pins s σ H Q I q => h.run p pins s σ H Q I (i σ H Q q)⟩
theorem ek_nil : EvK X W [] fNil := pk_nil.imp fun σ H Q ⟨wd, A0, A, H0, ρ, s, G, q⟩ => q [] H G Ext.refl .nil
theorem ek_cons {e : Expr} {fa : Sem1 D} {kws : List Keyword} {fs : Sem1 (List SV)} {nm : Option Str} {kpos : Pos} (ha : EvE X W e fa) (hr : EvK X W kws fs) : EvK X W (⟨nm, e, kpos⟩ :: kws) (fConsA fa fs) := by
  refine (pk_cons ha hr).imp fun σ H Q q => ?_
  obtain ⟨wd, A0, A, H0, ρ, s, G, q⟩ := q
  unfold fConsA at q
  refine tE_bind G (fun x s1 v H1 e1 G1 x1 r1 => ?_) (fun c s1 H1 e1 G1 x1 => by rw [e1] at q; exact q H1 G1 x1) (fun e1 => by rw [e1] at q; exact q)
  rw [e1, Res.bind_ok] at q
  refine tA_bind G1 (fun y s2 u H2 e2 G2 x2 r2 => ?_) (fun c s2 H2 e2 G2 x2 => by rw [e2] at q; exact q H2 G2 (x1.trans x2)) (fun e2 => by rw [e2] at q; exact q)
  rw [e2, Res.bind_ok] at q
  exact q _ H2 G2 (x1.trans x2) (.cons (G1.rp r1 x2) r2)
end
/-- a positional values, then b by keyword, put where they belong -/
def arr {α : Type} (a b : Nat) (π : List Nat) (us ws : List α) : List α := if us.length = a ∧ ws.length = b then us ++ π.filterMap fun i => ws[i]? else []
theorem paired_get {α β : Type} {R : α → β → Prop} : ∀ {xs : List α} {ys : List β}, Paired R xs ys → ∀ i : Nat, (xs[i]? = none ∧ ys[i]? = none) ∨ ∃ x y, xs[i]? = some x ∧ ys[i]? = some y ∧ R x y
  | _, _, .nil, i => .inl ⟨rfl, rfl⟩
  | _, _, .cons h r, 0 => .inr ⟨_, _, rfl, rfl, h⟩
  | _, _, .cons h r, i + 1 => by simpa using paired_get r i
theorem paired_pick {α β : Type} {R : α → β → Prop} {xs : List α} {ys : List β} (r : Paired R xs ys) : ∀ π : List Nat, Paired R (π.filterMap fun i => xs[i]?) (π.filterMap fun i => ys[i]?)
  | [] => .nil
  | i :: π => by
    rcases paired_get r i with ⟨h1, h2⟩ | ⟨x, y, h1, h2, h⟩
    · simp only [List.filterMap_cons, h1, h2]; exact paired_pick r π
    · simp only [List.filterMap_cons, h1, h2]; exact .cons h (paired_pick r π)
theorem paired_append {α β : Type} {R : α → β → Prop} : ∀ {xs : List α} {ys : List β} {us : List α} {ws : List β}, Paired R xs ys → Paired R us ws → Paired R (xs ++ us) (ys ++ ws)
  | _, _, _, _, .nil, q => q
  | _, _, _, _, .cons h r, q => .cons h (paired_append r q)
theorem paired_len {α β : Type} {R : α → β → Prop} : ∀ {xs : List α} {ys : List β}, Paired R xs ys → xs.length = ys.length
  | _, _, .nil => rfl
  | _, _, .cons h r => congrArg Nat.succ (paired_len r)
theorem paired_arr {α β : Type} {R : α → β → Prop} {xs us : List α} {ys ws : List β} {a b : Nat} {π : List Nat} (r : Paired R xs ys) (q : Paired R us ws) : Paired R (arr a b π xs us) (arr a b π ys ws) := by
  unfold arr
  rw [paired_len r, paired_len q]
  split
  · exact paired_append r (paired_pick q π)
  · exact .nil
theorem kbinds_of {K : Fg} {x qual : Str} {st : Stmt} {f : Addr} {fd : FuncData} {ps ks : List Str} {a b : Nat} {π : List Nat} (F : Fun K x qual st f fd) (hp : ps ≠ [])
    (h : ∀ (kV doc pm : Value) (an : Option Addr) (cdv ct : Value) (us ws : List Value), us.length = a → ws.length = b → bindArgs (PySem.W.fnOf x qual (defArgs st) (defBody st) (defScope st) .none kV doc pm an cdv ct) ⟨us, ks.zip ws⟩ = pure (ps.zip (arr a b π us ws))) : KBinds K fd ps ks (arr a b π) (arr a b π) := by
  obtain ⟨oc, od, kV, doc, pm, an, cdv, ct, osl, rfl, lk, hcd⟩ := F.ex
  refine ⟨fun s us ws _ hl => .of_eq ?_, fun r q => paired_arr r q⟩
  by_cases hh : us.length = a ∧ ws.length = b
  · exact h kV doc pm an cdv ct us ws hh.1 hh.2
  · unfold arr at hl
    rw [if_neg hh] at hl
    cases ps with
    | nil => exact absurd rfl hp
    | cons p r => cases hl
def fCallK (m : List SV → Dk → Res D) (a b : Nat) (π : List Nat) (fs ks : Sem1 (List SV)) : Sem1 D := fun ρ s => (fs ρ s).bind fun xs s1 => (ks ρ s1).bind fun ys s2 => m (arr a b π xs ys) s2
section
variable {X : Cx} {W : WX}
theorem run_fnkS {k : Nat} {f : Addr} {fd : FuncData} {ps ks : List Str} {sp : Sp} {E : St → XK} {g : List Value → List Value → List Value} {gV : List V → List V → List V} {pins : List (Addr × Obj)} {σ : St} {H : Hp} {s : Shared} {Q : VK} {us ws : List Value} {vs zs : List V} (F : FnOk X.prog X.w X.K X.mg X.base (L2.CX X.prog X.w) k f fd ps sp) (hr : Room k X.A) (hb : KBinds X.K fd ps ks g gV) (hx : PassesAt (L2.CX X.prog X.w) X σ (E σ))
    (I : Inv X pins σ H s) (r : Vals vs us) (rz : Vals zs ws) (h : sp (gV vs zs) H Q (E σ)) : wpAny (model X.prog X.w) X.A (call (.ref f) us (ks.zip ws)) (EP X pins σ Q) X.xe s := by
  have r2 := hb.rel r rz
  have hl : (g us ws).length = ps.length := by rw [← r2.length]; exact F.len _ _ _ _ h
  refine wpAny_call (codeAny_mono (F.run X.A X.stack s H ⟨us, ks.zip ws⟩ (g us ws) (gV vs zs) Q (E σ) hr I.env0 (hb.to s us ws I.kIn hl) r2 h) fun r s' hq => ?_)
  cases r with
  | error e => exact hx pins H s e s' I hq
  | ok fl =>
    cases fl with
    | ret u => exact I.after hq
    | next => exact False.elim hq
    | brk => exact False.elim hq
    | cont => exact False.elim hq
theorem tA_call2 {K : Fg} {mg : Str → Option Value} {m : List SV → Dk → Res D} {a b : Nat} {π : List Nat} {fs ks : Sem1 (List SV)} {σ : St} {H : Hp} {Q : VK} (q : tE K mg (fCallK m a b π fs ks) W σ H Q) :
    tA K mg fs W σ H fun vs H1 => tA K mg ks W σ H1 fun zs H2 => spF K mg m (arr a b π vs zs) H2 Q (WE W σ) := by
  obtain ⟨wd, A0, A, H0, ρ, s, G, q⟩ := q
  unfold fCallK at q
  refine tA_bind G (fun svs s1 vs H1 e1 G1 x1 r1 => ?_) (fun c s1 H1 e1 G1 x1 => by rw [e1] at q; exact q H1 G1 x1) (fun e1 => by rw [e1] at q; exact q)
  rw [e1, Res.bind_ok] at q
  refine tA_bind G1 (fun szs s2 zs H2 e2 G2 x2 r2 => ?_) (fun c s1 H2 e2 G2 x2 => by rw [e2] at q; exact q H2 G2 (x1.trans x2)) (fun e2 => by rw [e2] at q; exact q)
  rw [e2, Res.bind_ok] at q
  refine ⟨wd, A, arr a b π svs szs, s2, G2.ah, G2.dfA, G2.deck, paired_arr (r1.ext x2 G1.dfA) r2, ?_⟩
  cases e3 : m (arr a b π svs szs) s2 with
  | ok d s3 =>
    rw [e3] at q
    exact fun v H3 x3 rep r3 => q v H3 (G2.step x3 rep) (x1.trans (x2.trans x3)) r3
  | exc c s3 =>
    rw [e3] at q
    exact fun H3 x3 rep => q H3 (G2.step x3 rep) (x1.trans (x2.trans x3))
  | bad => rw [e3] at q; exact q
theorem ev_callK {x : Str} {st : Stmt} {k : Nat} {ps ks : List Str} {m : List SV → Dk → Res D} {f : Addr} {fd : FuncData} {e : Expr} {es : List Expr} {kws : List Keyword} {fs fk : Sem1 (List SV)} {p pos : Pos} {a b : Nat} {π : List Nat} (F : FnR X.prog X.w X.K X.mg X.base x st k ps m f fd) (hr : Room k X.A) (hg : Gl X x) (tk : Takes X W) (hb : KBinds X.K fd ps ks (arr a b π) (arr a b π)) (ha : EvA X W (e :: es) fs)
    (hkw : EvK X W kws fk) (hall : (backToKw pos (keywordEach kws X.env)).all (·.1.isSome) = true := by rfl) (hks : (backToKw pos (keywordEach kws X.env)).filterMap (·.1) = ks := by rfl)
    (hdb : (x == ("__debug__" : Str)) = false := by decide) (he : starEach (e :: es) X.env = (false, eval e X.env) :: starEach es X.env := by rfl)
    (hpl : ((backTo pos (starEach (e :: es) X.env)).any (·.1) || (backToKw pos (keywordEach kws X.env)).any (·.1.isNone)) = false := by rfl) : EvE X W (.Call (.Name x p) (e :: es) kws pos) (fCallK m a b π fs fk) := by
  refine ⟨fun pins s σ H Q I h => ?_⟩
  refine wpAny_Call_Name_kw (ld_glob I hg F.at_ ?_ hdb)
  refine PySem.W.callWith_KW (h₀ := X.base) I.ok.mod.kin F.fn.kp hall (thn (ha.run pos pins s σ H _ I (tA_call2 h)) fun us s1 ⟨vs, H1, I1, r, q⟩ => ?_) hpl he
  refine thn (hkw.run pos pins s1 σ H1 _ I1 q) fun ws s2 ⟨zs, H2, I2, rz, q2⟩ => ⟨I2.kIn, ?_⟩
  rw [hks]
  exact run_fnkS (E := WE W) F.ok hr hb (passAt tk σ) I2 r rz q2
theorem ev_callK0 {x : Str} {st : Stmt} {k : Nat} {ps ks : List Str} {m : List SV → Dk → Res D} {f : Addr} {fd : FuncData} {kws : List Keyword} {fk : Sem1 (List SV)} {p pos : Pos} {b : Nat} {π : List Nat} (F : FnR X.prog X.w X.K X.mg X.base x st k ps m f fd) (hr : Room k X.A) (hg : Gl X x) (tk : Takes X W) (hb : KBinds X.K fd ps ks (arr 0 b π) (arr 0 b π))
    (hkw : EvK X W kws fk) (hall : (backToKw pos (keywordEach kws X.env)).all (·.1.isSome) = true := by rfl) (hks : (backToKw pos (keywordEach kws X.env)).filterMap (·.1) = ks := by rfl)
    (hdb : (x == ("__debug__" : Str)) = false := by decide)
    (hpl : ((backTo pos (starEach [] X.env)).any (·.1) || (backToKw pos (keywordEach kws X.env)).any (·.1.isNone)) = false := by rfl) : EvE X W (.Call (.Name x p) [] kws pos) (fCallK m 0 b π fNil fk) := by
  refine ⟨fun pins s σ H Q I h => ?_⟩
  refine wpAny_Call_Name_kw (ld_glob I hg F.at_ ?_ hdb)
  obtain ⟨wd, A0, A, H0, ρ, t, G, q⟩ := tA_call2 h
  have q := q [] H G Ext.refl .nil
  refine PySem.W.callWith_KW0 (h₀ := X.base) I.ok.mod.kin F.fn.kp hall (thn (hkw.run pos pins s σ H _ I q) fun ws s2 ⟨zs, H2, I2, rz, q2⟩ => ⟨I2.kIn, ?_⟩) hpl
  rw [hks]
  exact run_fnkS (E := WE W) (us := []) (vs := []) F.ok hr hb (passAt tk σ) I2 .nil rz q2
end
end Cw

namespace Cw
open PySem PySem.Spec PyProof.Rows L2

/-! ### terms of whole numbers -/
/-- te is the number z here -/
def IsI (te : TE) (σ : St) (H : Hp) (z : Int) : Prop := ∀ Q : VK, Q (.int z) H → te σ H Q
section
variable {ta tb : TE} {σ : St} {H : Hp} {a b : Int}
theorem isI_c {i : Int} : IsI (tC (.int i)) σ H i := fun Q q => q
theorem isI_v {k : Nat} (h : σ[k]? = some (some (.int a))) : IsI (tVar k) σ H a := fun Q q => ⟨_, h, q⟩
theorem isI_add (ha : IsI ta σ H a) (hb : IsI tb σ H b) : IsI (tOp (rI0 fun i j => .int (i + j)) ta tb) σ H (a + b) := fun Q q => ha _ (hb _ ⟨a, b, rfl, rfl, q⟩)
theorem isI_mul (ha : IsI ta σ H a) (hb : IsI tb σ H b) (hc : CMul a b) : IsI (tOp (rI CMul fun i j => .int (i * j)) ta tb) σ H (a * b) := fun Q q => ha _ (hb _ ⟨a, b, rfl, rfl, hc, q⟩)
theorem isI_mod (ha : IsI ta σ H a) (hb : IsI tb σ H b) (hc : 0 < b) : IsI (tOp (rI (fun _ j => 0 < j) fun i j => .int (i % j)) ta tb) σ H (a % b) := fun Q q => ha _ (hb _ ⟨a, b, rfl, rfl, hc, q⟩)
theorem isI_div (ha : IsI ta σ H a) (hb : IsI tb σ H b) (hc : 0 < b) (h2 : b < 2 ^ 64) : IsI (tOp (rI CDivW fun i j => .int (i / j)) ta tb) σ H (a / b) := fun Q q => ha _ (hb _ ⟨a, b, rfl, rfl, ⟨hc, by
  have : b.natAbs < 2 ^ 64 := by omega
  exact Nat.lt_of_lt_of_le (PySem.Flt.log2_lt_of (by decide) this) (by decide)⟩, q⟩)
theorem isI_pow (ha : IsI ta σ H a) (hb : IsI tb σ H b) (hc : CPow a b) : IsI (tOp (rI CPow fun i j => .int (i ^ j.toNat)) ta tb) σ H (a ^ b.toNat) := fun Q q => ha _ (hb _ ⟨a, b, rfl, rfl, hc, q⟩)
def rInt1 : List V → Hp → VK → Prop := fun xs H Q => (∃ i, xs = [.int i] ∧ Q (.int i) H) ∨ ∃ k, xs = [.bl k] ∧ Q (.int (if k then 1 else 0)) H
theorem isI_int (ha : IsI ta σ H a) : IsI (tCB rInt1 (tCons ta tNil)) σ H a := fun Q q => ha _ (.inl ⟨a, rfl, q⟩)
theorem isI_get {k : Nat} {d : Addr} {kvs : List (Key × V)} {x : Str} (hs : σ[k]? = some (some (.ref d))) (hd : H d = some (.dK kvs)) (hv : valV kvs (.inr x) = some (.int a)) : IsI (tDGet (tVar k) (tC (.str x))) σ H a := fun Q q => ⟨_, hs, d, .int a, rfl, .inl ⟨kvs, .inr x, .inl hd, rfl, hv.symm⟩, q⟩
end

/-! ### the machine that goes round -/
def cellOkB (x : Int) : Bool := decide (0 ≤ x) && decide (x < 10 ^ 60)
def limC : Int := 2 ^ 63
def mixC (cell t a : Int) : Int :=
  (((cell + 13 * t) * 30011 + t * t * 617 + a * 101 + 5) % 998244353 * (((cell + 13 * t) * 30011 + t * t * 617 + a * 101 + 5) % 998244353) + 31 * t + cell) % 1000000007 * 40961 / 64
def okC (s : Dk) : Bool := decide (0 ≤ s.2.1) && decide (s.2.1 < s.1.length) && decide (0 ≤ s.2.2) && decide (s.2.2 + 1 < limC) && lineOk s.1.length
def drawC (m : Int) (s : Dk) : Res D :=
  if (okC s && decide (0 < m) && decide (m < 2 ^ 64)) = true then
    if 10 ^ 18 ≤ s.1.getD s.2.1.toNat 0 then .ok (.int (s.1.getD s.2.1.toNat 0 % m)) (s.1.set s.2.1.toNat (s.1.getD s.2.1.toNat 0 / m), (s.2.1 + 1) % (s.1.length : Int), s.2.2 + 1)
    else .ok (.int (mixC (s.1.getD s.2.1.toNat 0) (s.2.2 + 1) s.2.1 % m)) (s.1, (s.2.1 + 1) % (s.1.length : Int), s.2.2 + 1)
  else .bad
def mDrawC : List SV → Dk → Res D := fun svs s => match svs with
  | [.dk 3, .va (.int m)] => drawC m s
  | _ => .bad
/-- the walk of _law_draw -/
def rLenC (K : Fg) : List V → Hp → VK → Prop := fun xs H Q => ∃ p ys, xs = [.ref p] ∧ (SqL K H p ys ∨ SqT K H p ys) ∧ Q (.int ys.length) H
def tLenL (K : Fg) (t : TE) : TE := tCB (rLenC K) (tCons t tNil)
def tAdd (a b : TE) : TE := tOp (rI0 fun i j => .int (i + j)) a b
def tMul (a b : TE) : TE := tOp (rI CMul fun i j => .int (i * j)) a b
def tMod (a b : TE) : TE := tOp (rI (fun _ j => 0 < j) fun i j => .int (i % j)) a b
def tDiv (a b : TE) : TE := tOp (rI CDivW fun i j => .int (i / j)) a b
def tPow (a b : TE) : TE := tOp (rI CPow fun i j => .int (i ^ j.toNat)) a b
def tIn (a : TE) : TE := tCB rInt1 (tCons a tNil)
abbrev tN (i : Int) : TE := tC (.int i)
abbrev tGet (k : Nat) (x : Str) : TE := tDGet (tVar k) (tC (.str x))
def tGeS (a b : TE) : TT := tTest (tOp (rI0 fun i j => .bl (decide (j ≤ i))) a b)
def tDrawC1 : TS := tSeq (tAsg (tDiv (tVar 4) (tVar 1)) (L2.gSub (tVar 2) (tVar 3) rSetL)) (tRet (tMod (tIn (tVar 4)) (tVar 1)))
def tDrawC2 : TS :=
  tSeq (tAsg (tMod (tIn (tAdd (tAdd (tAdd (tMul (tAdd (tVar 4) (tMul (tN 13) (tVar 5))) (tN 30011)) (tMul (tMul (tVar 5) (tVar 5)) (tN 617))) (tMul (tVar 3) (tN 101))) (tN 5))) (tN 998244353)) (gName 6))
  (tSeq (tAsg (tMod (tIn (tAdd (tAdd (tMul (tVar 6) (tVar 6)) (tMul (tN 31) (tVar 5))) (tVar 4))) (tN 1000000007)) (gName 6))
  (tRet (tMod (tIn (tDiv (tMul (tVar 6) (tN 40961)) (tN 64))) (tVar 1))))
def tDrawC (K : Fg) : TS :=
  tSeq (tAsg (tGet 0 "cells") (gName 2))
  (tSeq (tAsg (tGet 0 "at") (gName 3))
  (tSeq (tAsg (tOp (rIxL K) (tVar 2) (tVar 3)) (gName 4))
  (tSeq (tAsg (tAdd (tGet 0 "turn") (tN 1)) (gName 5))
  (tSeq (sDPut (tVar 0) (tC (.str "turn")) (tVar 5))
  (tSeq (sDPut (tVar 0) (tC (.str "at")) (tMod (tIn (tAdd (tVar 3) (tN 1))) (tLenL K (tVar 2))))
  (tSeq (tIfS (tGeS (tVar 4) (tPow (tN 10) (tN 18))) tDrawC1 tNext)
  tDrawC2))))))
theorem cmulL {a b : Int} (h1 : -(2 ^ 64) < a) (h2 : a < 2 ^ 64) : CMul a b := .inl ⟨h1, h2⟩
theorem cmulR {a b : Int} (h1 : -(2 ^ 64) < b) (h2 : b < 2 ^ 64) : CMul a b := .inr ⟨h1, h2⟩
theorem wd_c {wd : Wd} (h : wd.kd = 3) : ∃ d c, wd.dv = .ref d ∧ wd.df = (fun a => a = d ∨ a = c) ∧ wd.rep = repC d c := by
  obtain ⟨kd, dv, df, rep, lay, fr, is⟩ := wd
  cases h
  cases is with
  | c d c => exact ⟨d, c, rfl, rfl, rfl⟩
theorem mDrawC_inv (svs : List SV) (s : Dk) : mDrawC svs s = .bad ∨ ∃ m, svs = [.dk 3, .va (.int m)] ∧ mDrawC svs s = drawC m s := by
  unfold mDrawC
  split
  · rename_i m; exact .inr ⟨m, rfl, rfl⟩
  · exact .inl rfl
theorem run_drawC {K : Fg} {mg : Str → Option Value} {vs : List V} {H : Hp} {Q : VK} {E : XK} (h : spF K mg mDrawC vs H Q E) : tDrawC K { nx := fun _ H' => Q .non H', rt := Q } (start ["source", "many", "cells", "at", "cell", "turn", "mixed"] vs) H := by
  obtain ⟨wd, A0, svs, s, h1, h2, h3, h4, h5⟩ := h
  rcases mDrawC_inv svs s with e | ⟨m, e, e'⟩
  · rw [e] at h5; exact h5.elim
  · rw [e'] at h5
    subst e
    cases h4 with
    | cons ha h4 => cases h4 with
      | cons hb h4 =>
        cases h4
        obtain ⟨hk, rfl⟩ := ha
        cases rp_int hb
        obtain ⟨d, c, e1, e2, e3⟩ := wd_c hk
        rw [e1]
        rw [e3] at h3
        obtain ⟨hd, hc, hdc⟩ := h3
        unfold drawC at h5
        by_cases hok : (okC s && decide (0 < m) && decide (m < 2 ^ 64)) = true
        · rw [if_pos hok] at h5
          unfold okC at hok
          simp only [Bool.and_eq_true, decide_eq_true_eq] at hok
          obtain ⟨⟨⟨⟨⟨⟨k1, k2⟩, k3⟩, k4⟩, k5⟩, m1⟩, m2⟩ := hok
          obtain ⟨cs, at', t⟩ := s
          simp only at k1 k2 k3 k4 k5 h5 hd hc
          generalize hcell : cs.getD at'.toNat 0 = cell at h5
          have kl : at'.toNat < cs.length := by omega
          have gat : (cs.map V.int)[at'.toNat]? = some (.int cell) := by
            rw [List.getElem?_map, List.getElem?_eq_getElem kl, ← hcell, List.getD_eq_getElem?_getD, List.getElem?_eq_getElem kl]; rfl
          have k4 : t + 1 < 2 ^ 63 := k4
          -- the heap as it goes
          have ext2 : ∀ (u : List (Key × V)) (ys : List V) , Ext wd.df H (upd (upd H d (.dK u)) c (.lst ys)) := fun u ys => by
            rw [e2]
            refine ⟨fun a o q n => ?_, fun a xs q => ?_, fun a o w q => ?_, fun a o q => ?_⟩
            · rw [upd_ne fun z => n (.inr z), upd_ne fun z => n (.inl z)]; exact q
            · rw [upd_ne (fun z => by rw [z, hc] at q; cases q), upd_ne (fun z => by rw [z, hd] at q; cases q)]; exact q
            · rw [upd_ne (fun z => by rw [z, hc] at q; cases q), upd_ne (fun z => by rw [z, hd] at q; cases q)]; exact q
            · by_cases z : a = c
              · exact ⟨_, by rw [z, upd_same]⟩
              · by_cases z2 : a = d
                · exact ⟨_, by rw [upd_ne z, z2, upd_same]⟩
                · exact ⟨o, by rw [upd_ne z, upd_ne z2]; exact q⟩
          refine ⟨_, rfl, d, .ref c, rfl, .inl ⟨_, .inr "cells", .inl hd, rfl, rfl⟩, ?_⟩
          refine isI_get (d := d) rfl hd rfl _ ?_
          refine ⟨_, rfl, _, rfl, c, cs.map V.int, at', .int cell, rfl, rfl, .inl (.inl hc), ?_, ?_⟩
          · unfold atI ixN
            rw [List.length_map, if_pos k1, if_pos k2]; exact gat
          refine isI_add (isI_get (d := d) rfl hd rfl) isI_c _ ?_
          -- source['turn'] = turn
          refine ⟨_, rfl, _, rfl, d, _, rfl, .inl ⟨_, .inr "turn", hd, rfl, (show 3 < sizeLine by decide), rfl⟩, ?_⟩
          generalize hH1 : upd H d _ = H1
          have hd1 : H1 d = some (.dK [(.inr "cells", .ref c), (.inr "at", .int at'), (.inr "turn", .int (t + 1))]) := by rw [← hH1, upd_same]; rfl
          have hc1 : H1 c = some (.lst (cs.map V.int)) := by rw [← hH1, upd_ne (Ne.symm hdc)]; exact hc
          -- source['at'] = ..
          refine isI_mod (b := (cs.length : Int)) (isI_int (isI_add (a := at') (isI_v rfl) isI_c)) ?_ (by omega) _ ?_
          · intro Q q
            exact ⟨_, rfl, c, cs.map V.int, rfl, .inl (.inl (.inl hc1)), by rw [List.length_map]; exact q⟩
          refine ⟨_, rfl, d, _, rfl, .inl ⟨_, .inr "at", hd1, rfl, (show 3 < sizeLine by decide), rfl⟩, ?_⟩
          generalize hH2 : upd H1 d _ = H2
          have hd2 : H2 d = some (.dK [(.inr "cells", .ref c), (.inr "at", .int ((at' + 1) % (cs.length : Int))), (.inr "turn", .int (t + 1))]) := by rw [← hH2, upd_same]; rfl
          have hc2 : H2 c = some (.lst (cs.map V.int)) := by rw [← hH2, upd_ne (Ne.symm hdc)]; exact hc1
          have hH2' : H2 = upd H d (.dK [(.inr "cells", .ref c), (.inr "at", .int ((at' + 1) % (cs.length : Int))), (.inr "turn", .int (t + 1))]) := by
            rw [← hH2, ← hH1, upd_upd]; rfl
          -- if cell >= 10 ** 18
          refine ⟨_, rfl, isI_pow isI_c isI_c ⟨by decide, by decide, by decide⟩ _ ⟨cell, _, rfl, rfl, _, rfl, ?_⟩⟩
          show if decide (10 ^ Int.toNat 18 ≤ cell) = true then _ else _
          by_cases big : (10 : Int) ^ 18 ≤ cell
          · rw [if_pos (decide_eq_true (by simpa using big))]
            rw [if_pos big] at h5
            refine isI_div (isI_v rfl) (isI_v rfl) m1 m2 _ ?_
            refine ⟨_, rfl, _, rfl, c, cs.map V.int, at', at'.toNat, rfl, rfl, hc2, ?_, ?_⟩
            · unfold ixN
              rw [List.length_map, if_pos k1, if_pos k2]
            refine isI_mod (isI_int (isI_v rfl)) (isI_v rfl) m1 _ ?_
            refine h5 _ _ (by rw [hH2']; exact ext2 _ _) ?_ (.int _)
            rw [e3]
            refine ⟨by rw [upd_ne hdc]; exact hd2, ?_, hdc⟩
            rw [upd_same, List.map_set]
          · rw [if_neg (fun z => big (by simpa using of_decide_eq_true z))]
            rw [if_neg big] at h5
            have hsq : -(2 ^ 64) < t + 1 ∧ t + 1 < 2 ^ 64 := by omega
            refine isI_mod (isI_int (isI_add (isI_add (isI_add (isI_mul (isI_add (isI_v rfl) (isI_mul isI_c (isI_v (a := t + 1) rfl) (cmulL (by decide) (by decide)))) isI_c (cmulR (by decide) (by decide))) (isI_mul (isI_mul (isI_v (a := t + 1) rfl) (isI_v (a := t + 1) rfl) (cmulL hsq.1 hsq.2)) isI_c (cmulR (by decide) (by decide)))) (isI_mul (isI_v rfl) isI_c (cmulR (by decide) (by decide)))) isI_c)) isI_c (by decide) _ ?_
            have b1 := Int.emod_nonneg ((cell + 13 * (t + 1)) * 30011 + (t + 1) * (t + 1) * 617 + at' * 101 + 5) (show (998244353 : Int) ≠ 0 by decide)
            have b2 := Int.emod_lt_of_pos ((cell + 13 * (t + 1)) * 30011 + (t + 1) * (t + 1) * 617 + at' * 101 + 5) (show (0 : Int) < 998244353 by decide)
            refine isI_mod (isI_int (isI_add (isI_add (isI_mul (isI_v rfl) (isI_v rfl) (cmulL (by omega) (by omega))) (isI_mul isI_c (isI_v (a := t + 1) rfl) (cmulL (by decide) (by decide)))) (isI_v rfl))) isI_c (by decide) _ ?_
            refine isI_mod (isI_int (isI_div (isI_mul (isI_v rfl) isI_c (cmulR (by decide) (by decide))) isI_c (by decide) (by decide))) (isI_v rfl) m1 _ ?_
            refine h5 _ _ ?_ ?_ (.int _)
            · have := ext2 [(.inr "cells", .ref c), (.inr "at", .int ((at' + 1) % (cs.length : Int))), (.inr "turn", .int (t + 1))] (cs.map V.int)
              rw [← hH2'] at this
              have e : upd H2 c (.lst (cs.map V.int)) = H2 := by
                funext b
                by_cases z : b = c
                · rw [z, upd_same, hc2]
                · rw [upd_ne z]
              rw [e] at this
              exact this
            · rw [e3]
              exact ⟨hd2, hc2, hdc⟩
        · rw [if_neg hok] at h5; exact h5.elim
end Cw

namespace Cw
open PySem PySem.Spec PyProof.Rows L2

/-! ### the script -/
def fSlSc (i : Nat) (fl fh : Sem1 (Option Int)) : Sem1 (List D) := fun ρ s => match ρ[i]? with
  | some (.sc ns) => (fl ρ s).bind fun lo s1 => (fh ρ s1).bind fun hi s2 => .ok (cutD (ns.map PyData.int) lo hi) s2
  | _ => .bad
theorem rp_ints {K : Fg} {H : Hp} {A : Addr → Prop} : ∀ ns : List Int, RpAll K H A (ns.map V.int) (ns.map PyData.int)
  | [] => .nil
  | n :: r => .cons (.int n) (rp_ints r)
theorem rp_ints_inv {K : Fg} {H : Hp} {A : Addr → Prop} : ∀ {ns : List Int} {xs : List V}, RpAll K H A xs (ns.map PyData.int) → xs = ns.map V.int
  | [], _, .nil => rfl
  | n :: r, _, .cons h q => by rw [rp_ints_inv q, rp_int h]; rfl
section
variable {X : Cx} {W : WX}
theorem eo_slsc {i : Nat} {x : Str} {p p2 pos : Pos} {lo hi : Option Expr} {fl fh : Sem1 (Option Int)} (h : PE X (.Name x p) (tVar i)) (hl : EvP X W lo fl) (hh : EvP X W hi fh) : EvO X W (.Subscript (.Name x p) (.Slice lo hi none p2) pos) (fSlSc i fl fh) := by
  refine (pe_slice sl_list h hl hh).imp fun σ H Q q => ?_
  obtain ⟨wd, A0, A, H0, ρ, s, G, q⟩ := q
  unfold fSlSc at q
  cases e : ρ[i]? with
  | none => rw [e] at q; exact q.elim
  | some sv =>
    rw [e] at q
    cases sv with
    | sc ns =>
      obtain ⟨a, e1, ok⟩ := G.slot i _ e
      refine ⟨_, e1, ?_⟩
      refine tP_bind G (fun l s2 H2 e2 G2 x2 => ?_) (fun c s1 H1 e1 G1 x2 => by simp only [e1] at q; exact q H1 G1 x2) (fun e1 => by simp only [e1] at q; exact q)
      simp only [e2, Res.bind_ok] at q
      refine tP_bind G2 (fun u s3 H3 e3 G3 x3 => ?_) (fun c s1 H1 e1 G1 x3 => by simp only [e1] at q; exact q H1 G1 (x2.trans x3)) (fun e1 => by simp only [e1] at q; exact q)
      simp only [e3, Res.bind_ok] at q
      have ok3 := (ok.ext x2).ext x3
      refine ⟨a, ns.map V.int, rfl, ok3.sq, fun t nt => ?_⟩
      have nt0 : H t = none := by
        cases z : H t with
        | none => rfl
        | some o =>
          obtain ⟨o', z'⟩ := (x2.trans x3).there t o z
          rw [nt] at z'; cases z'
      exact q t _ _ (G3.same (new_same nt)) ((x2.trans x3).trans (Ext.same (new_same nt))) nt0 upd_same (cut_rp (rp_ints ns) l u)
    | un => exact q.elim
    | va _ => exact q.elim
    | ow _ => exact q.elim
    | dk _ => exact q.elim
    | fv _ => exact q.elim
end
/-- nothing to draw from yet -/
def wd0 : Wd := ⟨0, .non, fun _ => False, fun _ _ => True, fun _ _ _ _ h => h.elim, fun _ _ _ _ _ => trivial, .no _ _ _⟩
def srcCells (ns : List Int) : List Int := (ns.take 63).map fun n => n % 10 ^ 60
def srcC (ns : List Int) : List Int := if srcCells ns = [] then [0] else srcCells ns
abbrev fSrc (i j : Nat) : Sem1 (List D) := fLc (fItems (fLst (fSlSc i fNoPart (fPart (fC (.int 63)))))) (gVar j) fYes (fBin gMod (fCB gInt (fCons (fVar j) fNil)) (fBin gPow (fC (.int 10)) (fC (.int 60)))) [j]
theorem lcL_pure {g : SemG} {ft : Sem1 Bool} {fe : Sem1 D} {ρ : En} {s : Dk} {f : D → D} : ∀ {ds : List D}, (∀ d ∈ ds, ∃ ρ1, g d ρ = some ρ1 ∧ ft ρ1 s = .ok true s ∧ fe ρ1 s = .ok (f d) s) → lcL g ft fe ρ ds s = .ok (ds.map f) s
  | [], _ => rfl
  | d :: ds, h => by
    obtain ⟨ρ1, h1, h2, h3⟩ := h d List.mem_cons_self
    unfold lcL
    simp only [h1, h2, h3, lcL_pure fun e he => h e (List.mem_cons_of_mem _ he)]
    rfl
theorem cutD_63 (ns : List D) : cutD ns none (some 63) = ns.take 63 := by
  unfold cutD
  rw [HT.sIx_none, show HT.sIx ns.length ns.length (some 63) = min 63 ns.length from HT.sIx_nat ns.length ns.length 63, List.drop_zero, Nat.sub_zero]
  by_cases h : ns.length ≤ 63
  · rw [Nat.min_eq_right h, List.take_length, List.take_of_length_le h]
  · rw [Nat.min_eq_left (by omega)]
theorem fSrc_run {i j : Nat} {ns : List Int} {ρ : En} {s : Dk} (h : ρ[i]? = some (.sc ns)) (hj : j < ρ.length) : fSrc i j ρ s = .ok ((srcCells ns).map PyData.int) s := by
  have e1 : fItems (fLst (fSlSc i fNoPart (fPart (fC (.int 63))))) ρ s = .ok ((ns.take 63).map PyData.int) s := by
    show ((((match ρ[i]? with
      | some (.sc ns) => (fNoPart ρ s).bind fun lo s1 => (fPart (fC (.int 63)) ρ s1).bind fun hi s2 => Res.ok (cutD (ns.map PyData.int) lo hi) s2
      | _ => Res.bad) : Res (List D)).bind fun ds s1 => Res.ok (.list ds) s1).bind fun d s1 => .lift (itemsD d) s1) = _
    rw [h]
    show Res.lift (itemsD (.list (cutD (ns.map PyData.int) none (some 63)))) s = _
    rw [cutD_63, List.map_take]
    rfl
  unfold fSrc fLc
  rw [e1, Res.bind_ok, if_pos (by
    unfold lineOk
    apply decide_eq_true
    rw [List.length_map, List.length_take]
    exact Nat.le_trans (Nat.min_le_left _ _) (by decide))]
  rw [lcL_pure (f := fun d => match d with | .int n => .int (n % 10 ^ 60) | d => d)]
  · unfold srcCells
    rw [List.map_map, List.map_map]; rfl
  · intro d hd
    obtain ⟨n, _, rfl⟩ := List.mem_map.mp hd
    refine ⟨_, rfl, rfl, ?_⟩
    have ej : ((wipeE ρ [j]).set j (.va (.int n)))[j]? = some (.va (.int n)) := set_self (by rw [wipeE_length]; exact hj)
    unfold fBin fCB fCons fVar
    simp only [ej, Res.bind_ok, fNil]
    rfl

/-! ### _law_source of the machine that goes round -/
def spSrcC (K : Fg) : Sp := fun vs H Q _ => ∃ (a : Addr) (ns : List Int), vs = [.ref a] ∧ ScOk K H a ns ∧ ∀ d c H', Ext (fun _ => False) H H' → H d = none → H c = none → repC d c (srcC ns, 0, 0) H' → Q (.ref d) H'
def sSrc2 : SemS := sIf (fViewT (fTest (fBin gEq (fVar 1) (fLst (fLine fNil))))) (sOwn 1 (fLine (fCons (fC (.int 0)) fNil))) sNil
def tSrcC (K : Fg) (mg : Str → Option Value) (W : WX) : TS := tSeq (tS K mg (sOwn 1 (fSrc 0 2)) W) (tSeq (tS K mg sSrc2 W)
  (tRet (tDisp [(tC (.str "cells"), tVar 1), (tC (.str "at"), tC (.int 0)), (tC (.str "turn"), tC (.int 0))])))
section
variable {α : Type} [DecidableEq α] [PySem.W.Datum α]
abbrev dat (a : α) : D := PySem.W.Datum.toD a
theorem gEq_dat (h : PySem.W.Datum.depth α ≤ 60) (a b : α) : gEq (dat a) (dat b) = some (.bool (decide (a = b))) := by
  unfold gEq
  rw [if_pos, PySem.W.Datum.eqv]
  rw [PySem.W.Datum.plain, PySem.W.Datum.plain]
  unfold shal
  exact decide_eq_true (Nat.le_trans (Nat.min_le_left _ _) (Nat.le_trans (PySem.W.Datum.depth_le a) h))
theorem gNe_dat (h : PySem.W.Datum.depth α ≤ 60) (a b : α) : gNe (dat a) (dat b) = some (.bool (!decide (a = b))) := by
  unfold gNe
  rw [if_pos, PySem.W.Datum.eqv]
  rw [PySem.W.Datum.plain, PySem.W.Datum.plain]
  unfold shal
  exact decide_eq_true (Nat.le_trans (Nat.min_le_left _ _) (Nat.le_trans (PySem.W.Datum.depth_le a) h))
end
theorem src2_run {ns : List Int} {s : Dk} : sSrc2 [.sc ns, .ow (.lst ((srcCells ns).map PyData.int)), .un] s = .nx [.sc ns, .ow (.lst ((srcC ns).map PyData.int)), .un] s := by
  have e : gEq (.list ((srcCells ns).map PyData.int)) (.list []) = some (.bool (decide (srcCells ns = []))) := gEq_dat (α := List Int) (by decide) (srcCells ns) []
  have e1 : fViewT (fTest (fBin gEq (fVar 1) (fLst (fLine fNil)))) [.sc ns, .ow (.lst ((srcCells ns).map PyData.int)), .un] s = .ok (decide (srcCells ns = [])) s := by
    show (Res.bind (Res.lift (gEq (.list ((srcCells ns).map PyData.int)) (.list [])) s) fun x s1 => Res.lift (asB x) s1) = _
    rw [e]; rfl
  unfold sSrc2 sIf srcC
  rw [e1, Res.bindS_ok]
  by_cases h : srcCells ns = []
  · rw [if_pos (decide_eq_true h), if_pos h]; rfl
  · rw [if_neg (fun z => h (of_decide_eq_true z)), if_neg h]; rfl
theorem good_sc {K : Fg} {mg : Str → Option Value} {H : Hp} {a : Addr} {ns : List Int} {n : Nat} {N : List Str} (hN : N.length = n + 1) (h : ScOk K H a ns) : Good K mg wd0 (fun _ => False) (fun _ => False) H (SV.sc ns :: List.replicate n .un) ([], 0, 0) (start N [.ref a]) H := by
  have := good_start (K := K) (mg := mg) (wd := wd0) (A0 := fun _ => False) (H := H) (svs := [.sc ns]) (vs := [.ref a]) (s := ([], 0, 0)) (N := N) (fun _ h => h.elim) (fun _ h => h.elim) trivial (.cons ⟨a, rfl, h⟩ .nil) (by rw [hN]; show 1 ≤ n + 1; omega)
  rw [hN] at this
  exact this
theorem run_srcC {K : Fg} {mg : Str → Option Value} {W : WX} {vs : List V} {H : Hp} {Q : VK} {E : XK} (h : spSrcC K vs H Q E) : tSrcC K mg W { nx := fun _ H' => Q .non H', rt := Q } (start ["script", "cells", "cell"] vs) H := by
  obtain ⟨a, ns, rfl, hs, q⟩ := h
  refine ⟨wd0, _, _, H, _, _, good_sc (n := 2) rfl hs, ?_⟩
  have e1 : sOwn 1 (fSrc 0 2) (SV.sc ns :: List.replicate 2 .un) ([], 0, 0) = .nx [.sc ns, .ow (.lst ((srcCells ns).map PyData.int)), .un] ([], 0, 0) := by
    unfold sOwn
    rw [fSrc_run (ns := ns) rfl (show 2 < 3 by decide)]; rfl
  rw [e1]
  intro A1 σ1 H1 G1 F1
  refine ⟨wd0, _, A1, H, _, _, G1, ?_⟩
  rw [src2_run]
  intro A2 σ2 H2 G2 F2
  obtain ⟨c, h1, h2, h3, xs, h4, h5⟩ := G2.slot 1 _ rfl
  have hc0 : H c = none := G2.own0 1 _ c rfl h1
  rw [rp_ints_inv h5] at h4
  intro d nd
  have dc : c ≠ d := ne_of_none h4 nd
  refine ⟨.ref c, h1, ?_⟩
  refine ⟨upd_same, [(.inr "cells", .ref c), (.inr "at", .int 0), (.inr "turn", .int 0)], rfl, (show 3 ≤ 15 by decide), ?_⟩
  refine q d c _ ?_ ?_ hc0 ⟨?_, ?_, Ne.symm dc⟩
  · have x : Ext (fun _ => False) H H2 := G2.ext
    have y : Ext (fun _ => False) H2 (upd H2 d (.dK [])) := Ext.same (new_same nd)
    rw [upd_upd]
    exact x.trans (Ext.same (new_same nd))
  · cases z : H d with
    | none => rfl
    | some o =>
      obtain ⟨o', z'⟩ := G2.ext.there d o z
      rw [nd] at z'; cases z'
  · rw [upd_same]; rfl
  · rw [upd_ne dc, upd_ne dc]; exact h4
end Cw

namespace Cw
open PySem PySem.Spec PyProof.Rows L2
/-! ### what a text's names are -/
theorem hu64 {k : Nat} {A : Around} (r : Room k A) : A.units + 64 < cLine := by have := r.un; omega
theorem hu1 {k : Nat} {A : Around} (r : Room k A) : A.units + 1 < cLine := by have := r.un; omega
/-- a global name's whole number -/
def GI (mg : Str → Option Value) (x : Str) (i : Int) : Prop := ∃ u, mg x = some u ∧ RelV (.int i) u
theorem ev_gi {X : Cx} {W : WX} {x : Str} {i : Int} {pos : Pos} (h : GI X.mg x i) (hg : Gl X x) (hd : (x == ("__debug__" : Str)) = false := by decide) : EvE X W (.Name x pos) (fC (.int i)) := by
  obtain ⟨u, h1, h2⟩ := h
  exact ev_c (pe_glob hg h1 h2 hd) fun _ _ => .int i
/-- an error of the text, under ValueError -/
structure ExC (K : Fg) (mg : Str → Option Value) (x : Str) : Prop where
  ex : ∃ C : Addr, mg x = some (.ref C) ∧ PySem.W.excIn K C [.type "ValueError", .type "Exception", .type "BaseException", .type "object"] "ValueError.__new__" = true ∧ PySem.W.keepIn K (.ref C) = true ∧ PySem.W.subIn K (.ref C) (.type "BaseException") = some true ∧ PySem.W.typeIn K (.ref C) = some (.type "type")
theorem es_rse {X : Cx} {W : WX} {x m : Str} {j : Nat} {p p1 p2 pos : Pos} (hc : X.calm = true) (tk : Takes X W) (h : ExC X.K X.mg x) (hg : Gl X x) (hdb : (x == ("__debug__" : Str)) = false := by decide) : EvS X W (.Raise (some (.Call (.Name x p) [.Constant (.str m) j p2] [] p1)) none pos) (sRaise x) := by
  obtain ⟨C, h1, h2, h3, h4, h5⟩ := h.ex
  exact es_raise hc tk PySem.F.excBase_ValueError h2 h1 h3 (raises_own h4 h5) hg hdb
/-- where a def stands -/
theorem fnR_of {P : Program} {w : World} {K : Fg} {mg : Str → Option Value} {base : Heap} {x : Str} {st : Stmt} {f : Addr} {fd : FuncData} {N ps : List Str} {k n n' : Nat} {fb : SemS} (F : Fun K x x st f fd) (at_ : mg x = some (.ref f)) (S : FnScope N ps (defScope st)) (hn : ps.length = n) (hN : N.length = n + n') (bd : Binds K fd ps [])
    (hbody : ∀ (cdv : Value) (A : Around) (outer : List Env) (s : Shared) (H : Hp) (E : XK), Room k (A.deeper (envOfC x (defScope st) s.heap.objs.size f cdv)) →
      EvB (cxOf (L2.CX P w) P w K mg base N x (defScope st) f cdv A outer s H E) (WB E) (defBody st) fb) : FnR P w K mg base x st (k + 1) ps (mBody n n' fb) f fd := by
  have e : n' = N.length - ps.length := by omega
  subst hn
  rw [e]
  exact ⟨F, at_, fn_ok F S (by omega) hbody, bd⟩
/-- the machine that goes round: its def -/
theorem fnR_drawC {P : Program} {w : World} {K : Fg} {mg : Str → Option Value} {base : Heap} {x : Str} {st : Stmt} {f : Addr} {fd : FuncData} (F : Fun K x x st f fd) (at_ : mg x = some (.ref f)) (S : FnScope ["source", "many", "cells", "at", "cell", "turn", "mixed"] ["source", "many"] (defScope st)) (bd : Binds K fd ["source", "many"] [])
    (hbody : ∀ (cdv : Value) (A : Around) (outer : List Env) (s : Shared) (H : Hp) (E : XK), Room 0 (A.deeper (envOfC x (defScope st) s.heap.objs.size f cdv)) →
      PSs (cxOf (L2.CX P w) P w K mg base ["source", "many", "cells", "at", "cell", "turn", "mixed"] x (defScope st) f cdv A outer s H E) (defBody st) (tDrawC K)) : FnR P w K mg base x st 1 ["source", "many"] mDrawC f fd :=
  ⟨F, at_, F.okX S (fun vs H Q E h => by
      obtain ⟨wd, A0, svs, s, h1, h2, h3, h4, h5⟩ := h
      rcases mDrawC_inv svs s with e | ⟨m, e, _⟩
      · rw [e] at h5; exact h5.elim
      · rw [← Paired.length h4, e]; rfl) (fun cdv A outer s H vs Q E hr h => ⟨_, hbody cdv A outer s H E hr, run_drawC h⟩), bd⟩
theorem ok_srcC {P : Program} {w : World} {K : Fg} {mg : Str → Option Value} {base : Heap} {x : Str} {st : Stmt} {f : Addr} {fd : FuncData} (F : Fun K x x st f fd) (S : FnScope ["script", "cells", "cell"] ["script"] (defScope st))
    (hbody : ∀ (cdv : Value) (A : Around) (outer : List Env) (s : Shared) (H : Hp) (E : XK), Room 0 (A.deeper (envOfC x (defScope st) s.heap.objs.size f cdv)) →
      PSs (cxOf (L2.CX P w) P w K mg base ["script", "cells", "cell"] x (defScope st) f cdv A outer s H E) (defBody st) (tSrcC K mg (WB E))) : FnOk P w K mg base (L2.CX P w) 1 f fd ["script"] (spSrcC K) :=
  F.okX S (fun vs H Q E h => by
      obtain ⟨a, ns, rfl, _⟩ := h
      rfl) (fun cdv A outer s H vs Q E hr h => ⟨_, hbody cdv A outer s H E hr, run_srcC h⟩)

/-! ### the law's own def -/
/-- what it promises -/
def spLaw (K : Fg) : Sp := fun vs H Q _ => ∃ (a : Addr) (ns : List Int), vs = [.ref a] ∧ ScOk K H a ns ∧ ns.length ≤ 63 ∧ ∀ H', Q (.bl true) H'
theorem scOk_of {K : Fg} {H : Hp} {a : Addr} {ns : List Int} (h : Only H) (q : SqL K H a (ns.map V.int)) : ScOk K H a ns := by
  rcases q with (q | ⟨o, q⟩) | q
  · rcases h a with z | ⟨o, xs, z⟩
    · rw [z] at q; cases q
    · rw [z] at q; cases q
  · exact .inl ⟨o, q⟩
  · exact .inr fun H' => .inr q
def wdC (d c : Addr) (h : d ≠ c) : Wd where
  kd := 3
  dv := .ref d
  df := fun a => a = d ∨ a = c
  rep := repC d c
  lay := fun s H r a z => by
    obtain ⟨r1, r2, _⟩ := r
    rcases z with rfl | rfl
    · exact ⟨_, r1, trivial⟩
    · exact ⟨_, r2, trivial⟩
  fr := fun s H H' r q => ⟨by rw [q d (.inl rfl)]; exact r.1, by rw [q c (.inr rfl)]; exact r.2.1, r.2.2⟩
  is := .c d c
/-- the law's def: the machine is made in the first line, the rest walks -/
theorem ok_lawC {P : Program} {w : World} {K : Fg} {mg : Str → Option Value} {base : Heap} {x : Str} {st : Stmt} {f : Addr} {fd : FuncData} {N : List Str} {k n : Nat} {m : SemS} (F : Fun K x x st f fd) (S : FnScope N ["script"] (defScope st)) (hN : N.length = n + 2)
    (hm : ∀ ns : List Int, ns.length ≤ 63 → ∃ s', m (.sc ns :: .dk 3 :: List.replicate n .un) (srcC ns, 0, 0) = .rt (.bool true) s')
    (hbody : ∀ (cdv : Value) (A : Around) (outer : List Env) (s : Shared) (H : Hp) (E : XK), Room k (A.deeper (envOfC x (defScope st) s.heap.objs.size f cdv)) →
      PSs (cxOf (L2.CX P w) P w K mg base N x (defScope st) f cdv A outer s H E) (defBody st) (tSeq (tAsg (tCallS (spSrcC K) (WE (WB E)) (tCons (tVar 0) tNil)) (gName 1)) (tS K mg m (WB E)))) : FnOk P w K mg base (L2.CX P w) (k + 1) f fd ["script"] (spLaw K) :=
  F.okX S (fun vs H Q E h => by
      obtain ⟨a, ns, rfl, _⟩ := h
      rfl) (fun cdv A outer s H vs Q E hr h => ⟨_, hbody cdv A outer s H E hr, by
    obtain ⟨a, ns, rfl, hs, hl, q⟩ := h
    have g0 : (start N [V.ref a])[0]? = some (some (.ref a)) := by unfold L2.start; rfl
    refine ⟨_, g0, a, ns, rfl, hs, fun d c H' x nd nc rep => ?_⟩
    obtain ⟨s', e⟩ := hm ns hl
    have hdc : d ≠ c := rep.2.2
    have G0 := good_start (K := K) (mg := mg) (wd := wdC d c hdc) (A0 := fun a => a = d ∨ a = c) (H := H') (svs := [.sc ns, .dk 3]) (vs := [.ref a, .ref d]) (s := (srcC ns, 0, 0)) (N := N) (fun a z => by
        rcases z with rfl | rfl
        · exact ⟨_, rep.1⟩
        · exact ⟨_, rep.2.1⟩) (fun _ z => z) rep (.cons ⟨a, rfl, hs.ext x⟩ (.cons ⟨rfl, rfl⟩ .nil)) (by rw [hN]; show 2 ≤ n + 2; omega)
    rw [hN] at G0
    have est : (start N [V.ref a]).set 1 (some (.ref d)) = start N [.ref a, .ref d] := by
      unfold L2.start
      rw [hN]
      show some (V.ref a) :: (List.replicate (n + 1) none).set 0 (some (.ref d)) = some (V.ref a) :: some (V.ref d) :: List.replicate n none
      rfl
    show tS K mg m (WB E) _ ((start N [V.ref a]).set 1 (some (.ref d))) H'
    rw [est]
    refine ⟨_, _, _, _, _, _, G0, ?_⟩
    show RSok K mg (WB E) _ _ _ _ _ _ (m (.sc ns :: .dk 3 :: List.replicate n .un) (srcC ns, 0, 0))
    rw [e]
    intro v H2 _ _ r
    rw [rp_bool r]
    exact q H2⟩)
theorem bt_len : bootBuiltins "len" = some (.builtin "len") := by rfl
theorem bt_all : bootBuiltins "all" = some (.builtin "all") := by rfl
theorem bt_any : bootBuiltins "any" = some (.builtin "any") := by rfl
theorem bt_min : bootBuiltins "min" = some (.builtin "min") := by rfl
theorem bt_max : bootBuiltins "max" = some (.builtin "max") := by rfl
theorem bt_sorted : bootBuiltins "sorted" = some (.builtin "sorted") := by rfl
theorem bt_sum : bootBuiltins "sum" = some (.builtin "sum") := by rfl
theorem bt_int : bootBuiltins "int" = some (.type "int") := by rfl
theorem bt_tuple : bootBuiltins "tuple" = some (.type "tuple") := by rfl
theorem bt_list : bootBuiltins "list" = some (.type "list") := by rfl
theorem bt_bool : bootBuiltins "bool" = some (.type "bool") := by rfl
theorem bt_str : bootBuiltins "str" = some (.type "str") := by rfl
theorem bt_dict : bootBuiltins "dict" = some (.type "dict") := by rfl
theorem bt_set : bootBuiltins "set" = some (.type "set") := by rfl
theorem bt_enumerate : bootBuiltins "enumerate" = some (.type "enumerate") := by rfl
theorem bt_reversed : bootBuiltins "reversed" = some (.type "reversed") := by rfl
theorem bt_range : bootBuiltins "range" = some (.type "range") := by rfl
theorem bt_zip : bootBuiltins "zip" = some (.type "zip") := by rfl
end Cw

namespace Cw
open PySem PySem.Spec PyProof.Rows L2
/-! ### list(range(..)) -/
def rgD (a b : Int) : List D := (List.range (b - a).toNat).map fun (i : Nat) => PyData.int (a + i)
def rgOkB (a b : Int) : Bool := intOk a && intOk b && lineOk (b - a).toNat
def fLRg1 (fa : Sem1 D) : Sem1 (List D) := fun ρ s => (fa ρ s).bind fun x s1 => match x with
  | .int n => if rgOkB 0 n = true then .ok (rgD 0 n) s1 else .bad
  | _ => .bad
def fLRg2 (fa fb : Sem1 D) : Sem1 (List D) := fun ρ s => (fa ρ s).bind fun x s1 => (fb ρ s1).bind fun y s2 => match x, y with
  | .int a, .int b => if rgOkB a b = true then .ok (rgD a b) s2 else .bad
  | _, _ => .bad
theorem rp_rg {K : Fg} {H : Hp} {A : Addr → Prop} (a b : Int) : RpAll K H A (rgV a b) (rgD a b) := by
  unfold rgV rgD
  generalize List.range (b - a).toNat = l
  induction l with
  | nil => exact .nil
  | cons i r ih => exact .cons (.int _) ih
theorem rgOk_of {a b : Int} (h : rgOkB a b = true) : RgOk a b := by
  unfold rgOkB at h
  rw [Bool.and_eq_true, Bool.and_eq_true] at h
  have h1 := intOk_of h.1.1
  have h2 := intOk_of h.1.2
  have h3 := h.2
  unfold lineOk at h3
  have h3 := of_decide_eq_true h3
  exact ⟨h1.1, h1.2, h2.1, h2.2, by omega⟩
section
variable {X : Cx} {W : WX}
theorem eo_lrg1 {a : Expr} {fa : Sem1 D} {p p2 p3 pos : Pos} (hc : X.calm = true) (hg : Gl X "list") (hm : X.mg "list" = none) (hg2 : Gl X "range") (hm2 : X.mg "range" = none) (ha : EvE X W a fa) (na : starEach [a] X.env = (false, eval a X.env) :: starEach [] X.env := by rfl)
    (nb : starEach [.Call (.Name "range" p2) [a] [] p3] X.env = (false, eval (.Call (.Name "range" p2) [a] [] p3) X.env) :: starEach [] X.env := by rfl) : EvO X W (.Call (.Name "list" p) [.Call (.Name "range" p2) [a] [] p3] [] pos) (fLRg1 fa) := by
  refine (pe_listRg hc hg hm (prg_1 hg2 hm2 ha na) nb).imp fun σ H Q q => ?_
  obtain ⟨wd, A0, A, H0, ρ, s, G, q⟩ := q
  unfold fLRg1 at q
  refine tE_bind G (fun x s1 v H1 e1 G1 x1 r1 => ?_) (fun c s1 H1 e1 G1 x1 => by rw [e1] at q; exact q H1 G1 x1) (fun e1 => by rw [e1] at q; exact q)
  rw [e1, Res.bind_ok] at q
  cases x with
  | int n =>
    simp only at q
    by_cases hk : rgOkB 0 n = true
    · rw [if_pos hk] at q
      cases rp_int r1
      refine ⟨n, rfl, rgOk_of hk, fun t nt => ?_⟩
      have nt0 : H t = none := by
        cases z : H t with
        | none => rfl
        | some o =>
          obtain ⟨o', z'⟩ := x1.there t o z
          rw [nt] at z'; cases z'
      exact q t _ _ (G1.same (new_same nt)) (x1.trans (Ext.same (new_same nt))) nt0 upd_same (rp_rg _ _)
    · rw [if_neg hk] at q; exact q.elim
  | _ => exact q.elim
theorem eo_lrg2 {a b : Expr} {fa fb : Sem1 D} {p p2 p3 pos : Pos} (hc : X.calm = true) (hg : Gl X "list") (hm : X.mg "list" = none) (hg2 : Gl X "range") (hm2 : X.mg "range" = none) (ha : EvE X W a fa) (hb : EvE X W b fb) (na : starEach [a, b] X.env = (false, eval a X.env) :: starEach [b] X.env := by rfl) (nc : starEach [b] X.env = (false, eval b X.env) :: starEach [] X.env := by rfl)
    (nb : starEach [.Call (.Name "range" p2) [a, b] [] p3] X.env = (false, eval (.Call (.Name "range" p2) [a, b] [] p3) X.env) :: starEach [] X.env := by rfl) (hp : (backTo p3 (starEach [b] X.env)).any (·.1) = false := by rfl) : EvO X W (.Call (.Name "list" p) [.Call (.Name "range" p2) [a, b] [] p3] [] pos) (fLRg2 fa fb) := by
  refine (pe_listRg hc hg hm (prg_2 hg2 hm2 ha hb na nc hp) nb).imp fun σ H Q q => ?_
  obtain ⟨wd, A0, A, H0, ρ, s, G, q⟩ := q
  unfold fLRg2 at q
  refine tE_bind G (fun x s1 v H1 e1 G1 x1 r1 => ?_) (fun c s1 H1 e1 G1 x1 => by rw [e1] at q; exact q H1 G1 x1) (fun e1 => by rw [e1] at q; exact q)
  rw [e1, Res.bind_ok] at q
  refine tE_bind G1 (fun y s2 v2 H2 e2 G2 x2 r2 => ?_) (fun c s1 H1 e1 G1 x2 => by rw [e1] at q; exact q H1 G1 (x1.trans x2)) (fun e1 => by rw [e1] at q; exact q)
  rw [e2, Res.bind_ok] at q
  split at q
  · rename_i n m
    by_cases hk : rgOkB n m = true
    · rw [if_pos hk] at q
      cases rp_int r1
      cases rp_int r2
      refine ⟨n, m, rfl, rfl, rgOk_of hk, fun t nt => ?_⟩
      have x12 := x1.trans x2
      have nt0 : H t = none := by
        cases z : H t with
        | none => rfl
        | some o =>
          obtain ⟨o', z'⟩ := x12.there t o z
          rw [nt] at z'; cases z'
      exact q t _ _ (G2.same (new_same nt)) (x12.trans (Ext.same (new_same nt))) nt0 upd_same (rp_rg _ _)
    · rw [if_neg hk] at q; exact q.elim
  · exact q.elim
end
end Cw

namespace Cw
open PySem PySem.Spec PyProof.Rows L2

/-! ### several values at once, new lists among them -/
inductive MV where
  | d (x : D) | o (ds : List D)
def MvAll (K : Fg) (wd : Wd) (A : Addr → Prop) (H' : Hp) : Hp → List V → List MV → Prop
  | _, [], [] => True
  | H, v :: vs, .d x :: ms => Rp K H' A v x ∧ MvAll K wd A H' H vs ms
  | H, v :: vs, .o ds :: ms => ∃ (p : Addr) (xs : List V) (H1 : Hp), v = .ref p ∧ H p = none ∧ A p ∧ ¬ wd.df p ∧ H' p = some (.lst xs) ∧ RpAll K H' A xs ds ∧ H1 p ≠ none ∧ (∀ a, H1 a = none → H a = none) ∧ MvAll K wd A H' H1 vs ms
  | _, _, _ => False
theorem MvAll.from {K : Fg} {wd : Wd} {A : Addr → Prop} {H' : Hp} : ∀ {H H1 : Hp} {vs : List V} {ms : List MV}, (∀ a, H1 a = none → H a = none) → MvAll K wd A H' H1 vs ms → MvAll K wd A H' H vs ms
  | _, _, [], [], _, _ => trivial
  | H, H1, v :: vs, .d x :: ms, e, h => ⟨h.1, MvAll.from e h.2⟩
  | H, H1, v :: vs, .o ds :: ms, e, h => by
    obtain ⟨p, xs, H2, h1, h2, h3, h4, h5, h6, h7, h8, h9⟩ := h
    exact ⟨p, xs, H2, h1, e p h2, h3, h4, h5, h6, h7, fun a z => e a (h8 a z), h9⟩
  | _, _, [], _ :: _, _, h => h.elim
  | _, _, _ :: _, [], _, h => h.elim
theorem MvAll.len {K : Fg} {wd : Wd} {A : Addr → Prop} {H' : Hp} : ∀ {H : Hp} {vs : List V} {ms : List MV}, MvAll K wd A H' H vs ms → vs.length = ms.length
  | _, [], [], _ => rfl
  | H, v :: vs, .d x :: ms, h => congrArg Nat.succ (MvAll.len h.2)
  | H, v :: vs, .o ds :: ms, h => by
    obtain ⟨p, xs, H2, h1, h2, h3, h4, h5, h6, h7, h8, h9⟩ := h
    exact congrArg Nat.succ (MvAll.len h9)
  | _, [], _ :: _, h => h.elim
  | _, _ :: _, [], h => h.elim
theorem MvAll.same {K : Fg} {wd : Wd} {A : Addr → Prop} {H' H2 : Hp} (sm : Same H' H2) : ∀ {H : Hp} {vs : List V} {ms : List MV}, MvAll K wd A H' H vs ms → MvAll K wd A H2 H vs ms
  | _, [], [], _ => trivial
  | H, v :: vs, .d x :: ms, h => ⟨h.1.same sm, MvAll.same sm h.2⟩
  | H, v :: vs, .o ds :: ms, h => by
    obtain ⟨p, xs, H1, h1, h2, h3, h4, h5, h6, h7, h8, h9⟩ := h
    exact ⟨p, xs, H1, h1, h2, h3, h4, sm _ _ h5, h6.same sm, h7, h8, MvAll.same sm h9⟩
  | _, [], _ :: _, h => h.elim
  | _, _ :: _, [], h => h.elim
section
variable (K : Fg) (mg : Str → Option Value)
def ResM (wd : Wd) (A0 A : Addr → Prop) (H0 : Hp) (ρ : En) (σ : St) (H : Hp) (W : WX) (Q : List V → Hp → Prop) : Res (List MV) → Prop
  | .ok ms s' => ∀ vs A' H', Good K mg wd A0 A' H0 ρ s' σ H' → Ext wd.df H H' → (∀ a, A' a → A a ∨ H a = none) → (∀ a, A a → A' a) → MvAll K wd A' H' H vs ms → Q vs H'
  | .exc c s' => ∀ A' H', Good K mg wd A0 A' H0 ρ s' σ H' → Ext wd.df H H' → (∀ a, A' a → A a ∨ H a = none) → (∀ a, A a → A' a) → W (xv mg c) none σ H'
  | .bad => False
def tM (f : Sem1 (List MV)) (W : WX) : TA := fun σ H Q => ∃ wd A0 A H0 ρ s, Good K mg wd A0 A H0 ρ s σ H ∧ ResM K mg wd A0 A H0 ρ σ H W Q (f ρ s)
end
abbrev EvM (X : Cx) (W : WX) (es : List Expr) (f : Sem1 (List MV)) : Prop := PA X es (tM X.K X.mg f W)
def fMD (fa : Sem1 D) (fs : Sem1 (List MV)) : Sem1 (List MV) := fun ρ s => (fa ρ s).bind fun x s1 => (fs ρ s1).bind fun xs s2 => .ok (.d x :: xs) s2
def fMO (fl : Sem1 (List D)) (fs : Sem1 (List MV)) : Sem1 (List MV) := fun ρ s => (fl ρ s).bind fun x s1 => (fs ρ s1).bind fun xs s2 => .ok (.o x :: xs) s2
theorem ext_none {B : Addr → Prop} {H H' : Hp} (e : Ext B H H') (a : Addr) (h : H' a = none) : H a = none := by
  cases z : H a with
  | none => rfl
  | some o =>
    obtain ⟨o', z'⟩ := e.there a o z
    rw [h] at z'; cases z'
/-- the new object at p is avoided from now on -/
theorem Good.adopt {K : Fg} {mg : Str → Option Value} {wd : Wd} {A0 A : Addr → Prop} {H0 H H' : Hp} {ρ : En} {s s' : Dk} {σ : St} {p : Addr} {u : HO}
    (G : Good K mg wd A0 A H0 ρ s σ H) (G' : Good K mg wd A0 A H0 ρ s' σ H') (e : Ext wd.df H H') (np : H p = none) (hp : H' p = some u) : Good K mg wd A0 (fun a => A a ∨ a = p) H0 ρ s' σ H' where
  len := G.len
  slot := fun j sv q => by
    have up : ∀ a, (A a ∨ a = p) → A a ∨ H a = none := fun a z => z.elim .inl fun z => .inr (by rw [z]; exact np)
    have dfp : ∀ a, wd.df a → A a ∨ a = p := fun a z => .inl (G.dfA a z)
    have h := G.slot j sv q
    cases sv with
    | un => trivial
    | va d => obtain ⟨v, h1, h2⟩ := h; exact ⟨v, h1, (h2.av up).ext e dfp⟩
    | ow o =>
      obtain ⟨a, h1, h2, h3, h4⟩ := h
      obtain ⟨u, q5, _⟩ := h4.there
      exact ⟨a, h1, .inl h2, h3, (h4.av up).ext e dfp (by rw [q5]; exact e.keep _ _ q5 h3)⟩
    | dk => exact h
    | fv n => exact h
    | sc n => obtain ⟨a, q1, q2⟩ := h; exact ⟨a, q1, q2.ext e⟩
  dis := G.dis
  own0 := G.own0
  a0 := fun a z => .inl (G.a0 a z)
  a0h := G.a0h
  ah := fun a z => z.elim (G'.ah a) fun z => ⟨_, (congrArg H' z).trans hp⟩
  df0 := G.df0
  deck := G'.deck
  ext := G'.ext
/-- the slot takes the object at p as its own -/
theorem Good.putOwn {K : Fg} {mg : Str → Option Value} {wd : Wd} {A0 A : Addr → Prop} {H0 H : Hp} {ρ : En} {s : Dk} {σ : St} {i : Nat} {p : Addr} {xs : List V} {ds : List D}
    (G : Good K mg wd A0 A H0 ρ s σ H) (hA : A p) (nd : ¬ wd.df p) (n0 : H0 p = none) (no : ∀ (k : Nat) (u : OV), ρ[k]? = some (.ow u) → σ[k]? = some (some (.ref p)) → False) (hp : H p = some (.lst xs)) (r : RpAll K H A xs ds) : Good K mg wd A0 A H0 (ρ.set i (.ow (.lst ds))) s (σ.set i (some (.ref p))) H where
  len := by rw [List.length_set, List.length_set]; exact G.len
  slot := fun j sv q => by
    rcases get_set q with ⟨rfl, rfl, hl⟩ | ⟨hj, q⟩
    · exact ⟨p, set_self (by rw [← G.len]; exact hl), hA, nd, xs, hp, r⟩
    · rw [List.getElem?_set_ne (fun z => hj z.symm)]
      exact G.slot j sv q
  dis := fun j k o u a hjk h1 h2 h3 h4 => by
    rcases get_set h1 with ⟨ji, _, hl⟩ | ⟨hj, h1'⟩
    · rcases get_set h2 with ⟨ki, _, _⟩ | ⟨hk, h2'⟩
      · exact hjk (ji.trans ki.symm)
      · rw [ji, set_self (by rw [← G.len]; exact hl)] at h3
        cases h3
        rw [List.getElem?_set_ne (fun z => hk z.symm)] at h4
        exact no k u h2' h4
    · rw [List.getElem?_set_ne (fun z => hj z.symm)] at h3
      rcases get_set h2 with ⟨ki, _, hl⟩ | ⟨hk, h2'⟩
      · rw [ki, set_self (by rw [← G.len]; exact hl)] at h4
        cases h4
        exact no j o h1' h3
      · rw [List.getElem?_set_ne (fun z => hk z.symm)] at h4
        exact G.dis j k o u a hjk h1' h2' h3 h4
  own0 := fun j o a h1 h3 => by
    rcases get_set h1 with ⟨rfl, _, hl⟩ | ⟨hj, h1⟩
    · rw [set_self (by rw [← G.len]; exact hl)] at h3
      cases h3
      exact n0
    · rw [List.getElem?_set_ne (fun z => hj z.symm)] at h3
      exact G.own0 j o a h1 h3
  a0 := G.a0
  a0h := G.a0h
  ah := G.ah
  df0 := G.df0
  deck := G.deck
  ext := G.ext
section
variable {X : Cx} {W : WX} {e : Expr} {es : List Expr} {fa : Sem1 D} {fl : Sem1 (List D)} {fs : Sem1 (List MV)}
theorem tM_bind {K : Fg} {mg : Str → Option Value} {wd : Wd} {A0 A : Addr → Prop} {H0 H : Hp} {ρ : En} {s : Dk} {σ : St} {f : Sem1 (List MV)} {Q : List V → Hp → Prop} (G : Good K mg wd A0 A H0 ρ s σ H)
    (hok : ∀ ms s' vs A' H', f ρ s = .ok ms s' → Good K mg wd A0 A' H0 ρ s' σ H' → Ext wd.df H H' → (∀ a, A' a → A a ∨ H a = none) → (∀ a, A a → A' a) → MvAll K wd A' H' H vs ms → Q vs H')
    (hexc : ∀ c s' A' H', f ρ s = .exc c s' → Good K mg wd A0 A' H0 ρ s' σ H' → Ext wd.df H H' → (∀ a, A' a → A a ∨ H a = none) → (∀ a, A a → A' a) → W (xv mg c) none σ H') (hbad : f ρ s = .bad → False) : tM K mg f W σ H Q := by
  refine ⟨wd, A0, A, H0, ρ, s, G, ?_⟩
  cases e : f ρ s with
  | ok d s' => exact fun v A' H' => hok d s' v A' H' e
  | exc c s' => exact fun A' H' => hexc c s' A' H' e
  | bad => exact hbad e
theorem em_nil : EvM X W [] fNil := pa_nil.imp fun σ H Q ⟨wd, A0, A, H0, ρ, s, G, q⟩ => q [] A H G Ext.refl (fun _ z => .inl z) (fun _ z => z) trivial
theorem em_d (ha : EvE X W e fa) (hr : EvM X W es fs) (hs : starEach (e :: es) X.env = (false, eval e X.env) :: starEach es X.env := by rfl) : EvM X W (e :: es) (fMD fa fs) := by
  refine (pa_cons ha hr hs).imp fun σ H Q q => ?_
  obtain ⟨wd, A0, A, H0, ρ, s, G, q⟩ := q
  unfold fMD at q
  refine tE_bind G (fun x s1 v H1 e1 G1 x1 r1 => ?_) (fun c s1 H1 e1 G1 x1 => by rw [e1] at q; exact q A H1 G1 x1 (fun _ z => .inl z) (fun _ z => z)) (fun e1 => by rw [e1] at q; exact q)
  rw [e1, Res.bind_ok] at q
  refine tM_bind G1 (fun ms s2 vs A2 H2 e2 G2 x2 av up mv => ?_) (fun c s2 A2 H2 e2 G2 x2 av up => by rw [e2] at q; exact q A2 H2 G2 (x1.trans x2) (fun a z => (av a z).elim .inl fun z => .inr (ext_none x1 a z)) up) (fun e2 => by rw [e2] at q; exact q)
  rw [e2, Res.bind_ok] at q
  exact q (v :: vs) A2 H2 G2 (x1.trans x2) (fun a z => (av a z).elim .inl fun z => .inr (ext_none x1 a z)) up ⟨r1.move (x2.mono G1.dfA) av, mv.from fun a z => ext_none x1 a z⟩
theorem em_o (ha : EvO X W e fl) (hr : EvM X W es fs) (hs : starEach (e :: es) X.env = (false, eval e X.env) :: starEach es X.env := by rfl) : EvM X W (e :: es) (fMO fl fs) := by
  refine (pa_cons ha hr hs).imp fun σ H Q q => ?_
  obtain ⟨wd, A0, A, H0, ρ, s, G, q⟩ := q
  unfold fMO at q
  refine tO_bind G (fun x s1 p xs H1 e1 G1 x1 np hp r1 => ?_) (fun c s1 H1 e1 G1 x1 => by rw [e1] at q; exact q A H1 G1 x1 (fun _ z => .inl z) (fun _ z => z)) (fun e1 => by rw [e1] at q; exact q)
  rw [e1, Res.bind_ok] at q
  have nd : ¬ wd.df p := fun z => by
    obtain ⟨o, z'⟩ := G.ah p (G.dfA p z)
    rw [np] at z'; cases z'
  have Gp := G.adopt G1 x1 np hp
  have avp : ∀ {A2 : Addr → Prop}, (∀ a, A2 a → (A a ∨ a = p) ∨ H1 a = none) → ∀ a, A2 a → A a ∨ H a = none := fun {A2} av a z => by
    rcases av a z with (z | z) | z
    · exact .inl z
    · exact .inr (by rw [z]; exact np)
    · exact .inr (ext_none x1 a z)
  refine tM_bind Gp (fun ms s2 vs A2 H2 e2 G2 x2 av up mv => ?_) (fun c s2 A2 H2 e2 G2 x2 av up => by rw [e2] at q; exact q A2 H2 G2 (x1.trans x2) (avp av) (fun a z => up a (.inl z))) (fun e2 => by rw [e2] at q; exact q)
  rw [e2, Res.bind_ok] at q
  refine q (.ref p :: vs) A2 H2 G2 (x1.trans x2) (avp av) (fun a z => up a (.inl z)) ⟨p, xs, H1, rfl, np, up p (.inr rfl), nd, x2.keep _ _ hp nd, ?_, by rw [hp]; simp, fun a z => ext_none x1 a z, mv⟩
  exact r1.move (x2.mono fun a z => .inl (G.dfA a z)) av
/-! the stores -/
def stM : List Nat → List MV → En → En
  | i :: is, .d x :: ms, ρ => stM is ms (ρ.set i (.va x))
  | i :: is, .o ds :: ms, ρ => stM is ms (ρ.set i (.ow (.lst ds)))
  | _, _, ρ => ρ
def stV : List Nat → List V → St → St
  | i :: is, v :: vs, σ => stV is vs (σ.set i (some v))
  | _, _, σ => σ
theorem good_stM {K : Fg} {mg : Str → Option Value} {wd : Wd} {A0 A : Addr → Prop} {H0 H' : Hp} {s : Dk} : ∀ {is : List Nat} {ms : List MV} {vs : List V} {H : Hp} {ρ : En} {σ : St}, Good K mg wd A0 A H0 ρ s σ H' → MvAll K wd A H' H vs ms → (∀ a, H a = none → H0 a = none) →
    (∀ (k : Nat) (u : OV) (a : Addr), ρ[k]? = some (.ow u) → σ[k]? = some (some (.ref a)) → H a ≠ none) → is.length = ms.length → Good K mg wd A0 A H0 (stM is ms ρ) s (stV is vs σ) H'
  | [], [], [], H, ρ, σ, G, _, _, _, _ => G
  | i :: is, .d x :: ms, v :: vs, H, ρ, σ, G, mv, h0, ho, hl => by
    refine good_stM (is := is) (ms := ms) (vs := vs) (G.put mv.1) mv.2 h0 (fun k u a h1 h2 => ?_) (by simpa using hl)
    rcases get_set h1 with ⟨_, z, _⟩ | ⟨hk, h1⟩
    · cases z
    · rw [List.getElem?_set_ne (fun z => hk z.symm)] at h2
      exact ho k u a h1 h2
  | i :: is, .o ds :: ms, v :: vs, H, ρ, σ, G, mv, h0, ho, hl => by
    obtain ⟨p, xs, H1, rfl, np, hA, nd, hp, r, n1, e1, mv⟩ := mv
    refine good_stM (is := is) (ms := ms) (vs := vs) (G.putOwn hA nd (h0 p np) (fun k u h1 h2 => ho k u p h1 h2 np) hp r) mv (fun a z => h0 a (e1 a z)) (fun k u a h1 h2 => ?_) (by simpa using hl)
    rcases get_set h1 with ⟨rfl, _, hlt⟩ | ⟨hk, h1⟩
    · rw [set_self (by rw [← G.len]; exact hlt)] at h2
      cases h2
      exact n1
    · rw [List.getElem?_set_ne (fun z => hk z.symm)] at h2
      exact fun z => ho k u a h1 h2 (e1 a z)
  | [], [], _ :: _, _, _, _, _, mv, _, _, _ => mv.elim
  | [], _ :: _, _, _, _, _, _, _, _, _, hl => by simp at hl
  | _ :: _, [], _, _, _, _, _, _, _, _, hl => by simp at hl
  | _ :: _, .d _ :: _, [], _, _, _, _, mv, _, _, _ => mv.elim
  | _ :: _, .o _ :: _, [], _, _, _, _, mv, _, _, _ => mv.elim
def sMv (is : List Nat) (fs : Sem1 (List MV)) : SemS := fun ρ s => (fs ρ s).bindS ρ fun ms s1 => if is.length = ms.length then .nx (stM is ms ρ) s1 else .bad
theorem tM_store {K : Fg} {mg : Str → Option Value} {is : List Nat} {D : Ends} {σ : St} {H : Hp} (q : tS K mg (sMv is fs) W D σ H) : tM K mg fs W σ H fun vs H1 => vs.length = is.length ∧ D.nx (stV is vs σ) H1 ∧ ∀ H2, Same H1 H2 → D.nx (stV is vs σ) H2 := by
  obtain ⟨wd, A0, A, H0, ρ, s, G, q⟩ := q
  unfold sMv at q
  refine tM_bind G (fun ms s1 vs A1 H1 e1 G1 x1 av up mv => ?_) (fun c s1 A1 H1 e1 G1 x1 av up => by rw [e1] at q; exact q A1 σ H1 G1 ⟨x1.mono G.dfA, av⟩) (fun e1 => by rw [e1] at q; exact q)
  rw [e1] at q
  by_cases hl : is.length = ms.length
  · have q : RSok K mg W wd A0 H0 A H D (.nx (stM is ms ρ) s1) := by
      have q' := q
      simp only [Res.bindS_ok, if_pos hl] at q'
      exact q'
    have own : ∀ (k : Nat) (u : OV) (a : Addr), ρ[k]? = some (.ow u) → σ[k]? = some (some (.ref a)) → H a ≠ none := fun k u a h1 h2 z => by
      obtain ⟨b, g1, g2, g3, g4⟩ := G.slot k _ h1
      rw [h2] at g1
      have : a = b := by injection (Option.some.inj (Option.some.inj g1))
      subst this
      obtain ⟨o', z', _⟩ := g4.there
      rw [z] at z'; cases z'
    refine ⟨by rw [mv.len, hl], q A1 _ H1 (good_stM G1 mv (fun a z => ext_none G.ext a z) own hl) ⟨x1.mono G.dfA, av⟩, fun H2 sm => ?_⟩
    exact q A1 _ H2 (good_stM (G1.same sm) (mv.same sm) (fun a z => ext_none G.ext a z) own hl) ⟨(x1.trans (Ext.same sm)).mono G.dfA, av⟩
  · have : False := by
      have q' := q
      simp only [Res.bindS_ok, if_neg hl] at q'
      exact q'
    exact this.elim
theorem es_mv2 {i j : Nat} {x y : Str} {a b : Expr} {px py pt pos : Pos} {kt k2 pt2} (hc : X.calm = true) (hN : X.N.Nodup) (hi : X.N[i]? = some x) (hj : X.N[j]? = some y) (hij : i ≠ j)
    (hx : X.env.scope.names.lookup x = some .local) (hy : X.env.scope.names.lookup y = some .local) (ha : EvM X W [a, b] fs)
    (hw : swappedStores [.Tuple [.Name x px, .Name y py] kt pt] (.Tuple [a, b] k2 pt2) X.env = pure (some [x, y]))
    (hs : swapsWithSole [.Tuple [.Name x px, .Name y py] kt pt] (.Tuple [a, b] k2 pt2) pos.line X.env = pure false := by rfl) :
    EvS X W (.Assign [.Tuple [.Name x px, .Name y py] kt pt] (.Tuple [a, b] k2 pt2) pos) (sMv [i, j] fs) := by
  refine (ps_par hc hN hi hj hij hx hy ha hw hs).imp fun D σ H q => ?_
  obtain ⟨wd, A0, A, H0, ρ, s, G, q⟩ := tM_store q
  refine ⟨wd, A0, A, H0, ρ, s, G, ?_⟩
  cases e : fs ρ s with
  | bad => rw [e] at q; exact q
  | exc c s1 => rw [e] at q; exact q
  | ok ms s1 =>
    rw [e] at q
    intro vs A1 H1 G1 x1 av up mv
    obtain ⟨hl, h1, _⟩ := q vs A1 H1 G1 x1 av up mv
    match vs, hl with
    | [v, w], _ => exact ⟨v, w, rfl, h1⟩
theorem es_mv3 {i j l : Nat} {x y z : Str} {a b c : Expr} {px py pz pt pos : Pos} {kt k2 pt2} (hc : X.calm = true) (hN : X.N.Nodup) (hi : X.N[i]? = some x) (hj : X.N[j]? = some y) (hl : X.N[l]? = some z) (hij : i ≠ j) (hil : i ≠ l) (hjl : j ≠ l)
    (hx : X.env.scope.names.lookup x = some .local) (hy : X.env.scope.names.lookup y = some .local) (hz : X.env.scope.names.lookup z = some .local) (ha : EvM X W [a, b, c] fs)
    (hw : swappedStores [.Tuple [.Name x px, .Name y py, .Name z pz] kt pt] (.Tuple [a, b, c] k2 pt2) X.env = pure (some [x, y, z]))
    (hs : swapsWithSole [.Tuple [.Name x px, .Name y py, .Name z pz] kt pt] (.Tuple [a, b, c] k2 pt2) pos.line X.env = pure false := by rfl) :
    EvS X W (.Assign [.Tuple [.Name x px, .Name y py, .Name z pz] kt pt] (.Tuple [a, b, c] k2 pt2) pos) (sMv [i, j, l] fs) := by
  refine (ps_par3 hc hN hi hj hl hij hil hjl hx hy hz ha hw hs).imp fun D σ H q => ?_
  obtain ⟨wd, A0, A, H0, ρ, s, G, q⟩ := tM_store q
  refine ⟨wd, A0, A, H0, ρ, s, G, ?_⟩
  cases e : fs ρ s with
  | bad => rw [e] at q; exact q
  | exc c s1 => rw [e] at q; exact q
  | ok ms s1 =>
    rw [e] at q
    intro vs A1 H1 G1 x1 av up mv
    obtain ⟨hl, h1, _⟩ := q vs A1 H1 G1 x1 av up mv
    match vs, hl with
    | [u, v, w], _ => exact ⟨u, v, w, rfl, h1⟩
/-- names in a row -/
def gNames (is : List Nat) : TGs := fun vs σ H Q => vs.length = is.length ∧ Q (stV is vs σ) H
theorem pn_nil : PGs X [] (gNames []) := pgs_nil.imp fun vs σ H Q q => by
  obtain ⟨h1, h2⟩ := q
  have : vs = [] := List.length_eq_zero_iff.mp h1
  subst this
  exact ⟨rfl, h2⟩
theorem pn_cons {i : Nat} {is : List Nat} {e : Expr} {es : List Expr} (h1 : PG X e (gName i)) (h2 : PGs X es (gNames is)) (hs : (assignEach (e :: es) X.env).map (·.2) = assign e X.env :: (assignEach es X.env).map (·.2) := by rfl) : PGs X (e :: es) (gNames (i :: is)) := (pgs_cons h1 h2 hs).imp fun vs σ H Q q => by
  obtain ⟨h1, h2⟩ := q
  match vs, h1 with
  | v :: vs, h1 => exact ⟨v, vs, rfl, by simpa using h1, h2⟩
theorem es_mvT {is : List Nat} {ts vs : List Expr} {kt k2 : Nat} {pt pt2 pos : Pos} (hc : X.calm = true) (ha : EvM X W vs fs) (hg : PGs X ts (gNames is)) (hlen : is.length ≤ 1000 := by decide) (hn : (assignEach ts X.env).length = is.length := by rfl) (hst : (assignEach ts X.env).findIdx? (·.1) = none := by rfl)
    (hs : swapsWithSole [.Tuple ts kt pt] (.Tuple vs k2 pt2) pos.line X.env = pure false := by rfl) (hw : swappedStores [.Tuple ts kt pt] (.Tuple vs k2 pt2) X.env = pure none := by rfl) (h1 : (assignEach [.Tuple ts kt pt] X.env).map (·.2) = [assign (.Tuple ts kt pt) X.env] := by rfl) :
    EvS X W (.Assign [.Tuple ts kt pt] (.Tuple vs k2 pt2) pos) (sMv is fs) := by
  refine (ps_asg (pe_tup ha) (pg_tup hc hg hn hst) hs hw h1).imp fun D σ H q => ?_
  obtain ⟨wd, A0, A, H0, ρ, s, G, q⟩ := tM_store q
  refine ⟨wd, A0, A, H0, ρ, s, G, ?_⟩
  cases e : fs ρ s with
  | bad => rw [e] at q; exact q
  | exc c s1 => rw [e] at q; exact q
  | ok ms s1 =>
    rw [e] at q
    intro us A1 H1 G1 x1 av up mv
    obtain ⟨hl, h1, h2⟩ := q us A1 H1 G1 x1 av up mv
    refine ⟨by rw [hl]; exact Nat.le_trans hlen (by decide), fun t nt => ⟨t, us, rfl, .inl (.inl upd_same), hl, hl, ?_⟩⟩
    exact h2 _ (new_same nt)
end
end Cw

namespace Cw
open PySem PySem.Spec PyProof.Rows L2
theorem RpAll.setAt {K : Fg} {H : Hp} {A : Addr → Prop} {v : V} {d : D} (h : Rp K H A v d) : ∀ {vs : List V} {ds : List D} {j : Nat}, RpAll K H A vs ds → RpAll K H A (vs.set j v) (ds.set j d)
  | _, _, _, .nil => .nil
  | _, _, 0, .cons _ r => .cons h r
  | _, _, j + 1, .cons h' r => .cons h' (RpAll.setAt h r)
theorem RpAll.dropL {K : Fg} {H : Hp} {A : Addr → Prop} : ∀ {vs : List V} {ds : List D}, RpAll K H A vs ds → RpAll K H A vs.dropLast ds.dropLast
  | _, _, .nil => .nil
  | _, _, .cons h .nil => .nil
  | _, _, .cons h (.cons h2 r) => by
    have := RpAll.dropL (.cons h2 r)
    simp only [List.dropLast_cons₂]
    exact .cons h this
section
variable {X : Cx} {W : WX} {e : Expr} {es : List Expr} {fa fb fi fe : Sem1 D} {fl : Sem1 (List D)} {fs : Sem1 (List MV)} {pos : Pos}
/-! ### x[k] = e, x an own list -/
def sSix (i : Nat) (fi fe : Sem1 D) : SemS := fun ρ s => (fe ρ s).bindS ρ fun x s1 => match ρ[i]? with
  | some (.ow (.lst ds)) => (fi ρ s1).bindS ρ fun k s2 => match k with
    | .int k => match ixN ds.length k with
      | some j => .nx (ρ.set i (.ow (.lst (ds.set j x)))) s2
      | none => .bad
    | _ => .bad
  | _ => .bad
theorem es_six {i : Nat} {x : Str} {k : Expr} {p1 p2 : Pos} (he : EvE X W e fe) (hx : PE X (.Name x p1) (tVar i)) (hi : EvE X W k fi)
    (ha : ∀ v, assign (.Subscript (.Name x p1) k p2) X.env v = (do
      let ov ← holding [v] (eval (.Name x p1) X.env)
      let iv ← holding [v, ov] (eval k X.env)
      standAt p2
      holding [v, ov, iv] (setItem ov iv v)
      release [v, ov, iv] []) := by intro _; rfl)
    (hs : swapsWithSole [.Subscript (.Name x p1) k p2] e pos.line X.env = pure false := by rfl) (hw : swappedStores [.Subscript (.Name x p1) k p2] e X.env = pure none := by rfl)
    (h1 : (assignEach [.Subscript (.Name x p1) k p2] X.env).map (·.2) = [assign (.Subscript (.Name x p1) k p2) X.env] := by rfl) : EvS X W (.Assign [.Subscript (.Name x p1) k p2] e pos) (sSix i fi fe) := by
  refine (ps_asg he (pg_sub hx hi set_list ha) hs hw h1).imp fun D σ H q => ?_
  obtain ⟨wd, A0, A, H0, ρ, s, G, q⟩ := q
  unfold sSix at q
  refine tE_bind G (fun y s1 v H1 e1 G1 x1 r1 => ?_) (fun c s1 H1 e1 G1 x1 => by rw [e1] at q; exact q A σ H1 G1 (Fr.of_ext x1 G.dfA)) (fun e1 => by rw [e1] at q; exact q)
  rw [e1, Res.bindS_ok] at q
  cases er : ρ[i]? with
  | none => rw [er] at q; exact q.elim
  | some sv =>
    rw [er] at q
    cases sv with
    | ow o =>
      cases o with
      | lst ds =>
        obtain ⟨p, e2, hA, nd, xs, hp, r⟩ := G1.slot i _ er
        refine ⟨_, e2, ?_⟩
        refine tE_bind G1 (fun y2 s2 v2 H2 e3 G2 x2 r2 => ?_) (fun c s2 H2 e3 G2 x2 => by simp only [e3] at q; exact q A σ H2 G2 (Fr.of_ext (x1.trans x2) G.dfA)) (fun e3 => by simp only [e3] at q; exact q)
        simp only [e3, Res.bindS_ok] at q
        cases y2 with
        | int k =>
          simp only at q
          cases ej : ixN ds.length k with
          | none => rw [ej] at q; exact q.elim
          | some j =>
            rw [ej] at q
            obtain ⟨p', e2', hA', nd', xs', hp', r'⟩ := G2.slot i _ er
            rw [e2] at e2'
            have : p = p' := by injection (Option.some.inj (Option.some.inj e2'))
            subst this
            cases rp_int r2
            refine ⟨p, xs', k, j, rfl, rfl, hp', by rw [r'.len]; exact ej, ?_⟩
            obtain ⟨G3, F3⟩ := G2.setOwn (xs := xs'.set j v) (ds := ds.set j y) er e2 (r'.setAt (G1.rp r1 x2))
            exact q A _ _ G3 ((Fr.of_ext (x1.trans x2) G.dfA).trans F3)
        | _ => exact q.elim
    | un => exact q.elim
    | va _ => exact q.elim
    | dk _ => exact q.elim
    | fv _ => exact q.elim
    | sc _ => exact q.elim
/-! ### x.pop(), x.pop(0) -/
def popL (ds : List D) : Option (D × List D) := (ds[ds.length - 1]?).map fun d => (d, ds.dropLast)
def popF (ds : List D) : Option (D × List D) := match ds with
  | d :: r => some (d, r)
  | [] => none
def sPop (i : Nat) (pf : List D → Option (D × List D)) (g : SemG) : SemS := fun ρ s => match ρ[i]? with
  | some (.ow (.lst ds)) => match pf ds with
    | some (d, r) => match g d (ρ.set i (.ow (.lst r))) with
      | some ρ' => .nx ρ' s
      | none => .bad
    | none => .bad
  | _ => .bad
theorem tAsg_pop {K : Fg} {mg : Str → Option Value} {i : Nat} {pf : List D → Option (D × List D)} {g : SemG} {ws : List Nat} {D : Ends} {σ : St} {H : Hp} {te : TE}
    (hte : ∀ (p : Addr) (xs : List V) (ds : List PyData) (d : PyData) (r : List PyData) (A : Addr → Prop) (Q : VK), σ[i]? = some (some (.ref p)) → H p = some (.lst xs) → RpAll K H A xs ds → pf ds = some (d, r) → (∀ v ys, Rp K H A v d → RpAll K H A ys r → Q v (upd H p (.lst ys))) → te σ H Q)
    (q : tS K mg (sPop i pf g) W D σ H) : tAsg te (tG K mg g ws) D σ H := by
  obtain ⟨wd, A0, A, H0, ρ, s, G, q⟩ := q
  unfold sPop at q
  cases er : ρ[i]? with
  | none => rw [er] at q; exact q.elim
  | some sv =>
    rw [er] at q
    cases sv with
    | ow o =>
      cases o with
      | lst ds =>
        simp only at q
        obtain ⟨p, e2, hA, nd, xs, hp, r⟩ := G.slot i _ er
        cases ep : pf ds with
        | none => rw [ep] at q; exact q.elim
        | some dr =>
          obtain ⟨d, r'⟩ := dr
          rw [ep] at q
          simp only at q
          refine hte p xs ds d r' A _ e2 hp r ep fun v ys rv ry => ?_
          obtain ⟨G3, F3⟩ := G.setOwn (xs := ys) (ds := r') er e2 ry
          have est : σ.set i (some (.ref p)) = σ := by
            apply List.ext_getElem?
            intro j
            by_cases hj : i = j
            · subst hj
              by_cases hl : i < σ.length
              · rw [List.getElem?_set_self hl]; exact e2.symm
              · rw [List.getElem?_eq_none (by simpa using hl), List.getElem?_eq_none (by simpa using hl)]
            · rw [List.getElem?_set_ne hj]
          refine ⟨wd, A0, A, H0, _, s, d, G3, ?_, ?_⟩
          · have ext : Ext (fun a => a = p) H (upd H p (.lst ys)) := ⟨fun a o q n => by rw [upd_ne n]; exact q, fun a ys q => by
                rw [upd_ne (fun z => by rw [z, hp] at q; cases q)]; exact q, fun a ob w q => by
                rw [upd_ne (fun z => by rw [z, hp] at q; cases q)]; exact q, fun a o q => by
                by_cases z : a = p
                · exact ⟨_, by rw [z]; exact upd_same⟩
                · exact ⟨o, by rw [upd_ne z]; exact q⟩⟩
            exact rv.ext ext fun a z => by rw [z]; exact hA
          · cases eg : g d (ρ.set i (.ow (.lst r'))) with
            | none => rw [eg] at q; exact q
            | some ρ' => rw [eg] at q; exact fun σ' G' _ => q A σ' _ G' F3
    | un => exact q.elim
    | va _ => exact q.elim
    | dk _ => exact q.elim
    | fv _ => exact q.elim
    | sc _ => exact q.elim
theorem pm_pop {i : Nat} {x : Str} {p1 p2 p3 : Pos} (hx : PE X (.Name x p1) (tVar i)) (hbase : attributeBase (.Name x p1) "pop" X.env (eval (.Name x p1) X.env) = eval (.Name x p1) X.env := by rfl) (hline : (p2.endLine == p3.line) = true := by rfl) :
    PE X (.Call (.Attribute (.Name x p1) "pop" p2) [] [] p3) (tBM0 X.K "list" rPop (tVar i)) :=
  pe_bm0 PySem.F.plainAttrs_list PySem.F.slot_list_pop PySem.F.type_list_pop mt_pop hx hbase hline
theorem es_pop {i : Nat} {x : Str} {p1 p2 p3 : Pos} {tg : Expr} {g : SemG} {ws : List Nat} (hm : PE X (.Call (.Attribute (.Name x p1) "pop" p2) [] [] p3) (tBM0 X.K "list" rPop (tVar i))) (hg : EvG X tg g ws)
    (hs : swapsWithSole [tg] (.Call (.Attribute (.Name x p1) "pop" p2) [] [] p3) pos.line X.env = pure false := by rfl) (hw : swappedStores [tg] (.Call (.Attribute (.Name x p1) "pop" p2) [] [] p3) X.env = pure none := by rfl)
    (h1 : (assignEach [tg] X.env).map (·.2) = [assign tg X.env] := by rfl) : EvS X W (.Assign [tg] (.Call (.Attribute (.Name x p1) "pop" p2) [] [] p3) pos) (sPop i popL g) := by
  refine (ps_asg hm hg hs hw h1).imp fun D σ H q => tAsg_pop (fun p xs ds d r A Q e2 hp rp ep hQ => ?_) q
  unfold popL at ep
  cases ed : ds[ds.length - 1]? with
  | none => rw [ed] at ep; cases ep
  | some d' =>
    rw [ed] at ep
    cases ep
    obtain ⟨v, hv, rv⟩ := rp.get ed
    refine ⟨_, e2, .inl ⟨rfl, xs, .inl (.inl hp)⟩, p, xs, v, rfl, rfl, hp, by rw [rp.len]; exact hv, hQ v _ rv rp.dropL⟩
theorem pm_pop0 {i : Nat} {x : Str} {p1 p2 p3 p4 : Pos} {j : Nat} (hx : PE X (.Name x p1) (tVar i)) (hbase : attributeBase (.Name x p1) "pop" X.env (eval (.Name x p1) X.env) = eval (.Name x p1) X.env := by rfl)
    (hfew : ((backTo p3 (starEach [.Constant (.int 0) j p4] X.env)).all (fun x => !x.1) && (backToKw p3 (keywordEach [] X.env)).all (fun x => x.1.isSome)
      && decide ([Expr.Constant (.int 0) j p4].length + ([] : List Keyword).length + (if ([] : List Keyword).isEmpty then 0 else 1) < 30)) = true := by rfl)
    (hline : (p2.endLine == p3.line) = true := by rfl) (hs : starEach [.Constant (.int 0) j p4] X.env = (false, eval (.Constant (.int 0) j p4) X.env) :: starEach [] X.env := by rfl) :
    PE X (.Call (.Attribute (.Name x p1) "pop" p2) [.Constant (.int 0) j p4] [] p3) (tBM X.K "list" rPopAt (tVar i) (tCons (tC (.int 0)) tNil)) :=
  pe_bm PySem.F.plainAttrs_list PySem.F.slot_list_pop PySem.F.type_list_pop mt_popAt hx (pa_cons pe_int pa_nil hs) hbase hfew hline hs (by rfl)
theorem es_pop0 {i : Nat} {x : Str} {p1 p2 p3 p4 : Pos} {j : Nat} {tg : Expr} {g : SemG} {ws : List Nat} (hm : PE X (.Call (.Attribute (.Name x p1) "pop" p2) [.Constant (.int 0) j p4] [] p3) (tBM X.K "list" rPopAt (tVar i) (tCons (tC (.int 0)) tNil))) (hg : EvG X tg g ws)
    (hs : swapsWithSole [tg] (.Call (.Attribute (.Name x p1) "pop" p2) [.Constant (.int 0) j p4] [] p3) pos.line X.env = pure false := by rfl) (hw : swappedStores [tg] (.Call (.Attribute (.Name x p1) "pop" p2) [.Constant (.int 0) j p4] [] p3) X.env = pure none := by rfl)
    (h1 : (assignEach [tg] X.env).map (·.2) = [assign tg X.env] := by rfl) : EvS X W (.Assign [tg] (.Call (.Attribute (.Name x p1) "pop" p2) [.Constant (.int 0) j p4] [] p3) pos) (sPop i popF g) := by
  refine (ps_asg hm hg hs hw h1).imp fun D σ H q => tAsg_pop (fun p xs ds d r A Q e2 hp rp ep hQ => ?_) q
  cases rp with
  | nil => cases ep
  | cons h rp =>
    rename_i v vs d' ds'
    cases ep
    refine ⟨_, e2, .inl ⟨rfl, _, .inl (.inl hp)⟩, p, v :: vs, 0, 0, v, rfl, rfl, hp, by decide, by decide, ?_, rfl, hQ v _ h rp⟩
    unfold seqIndex?
    simp
/-! ### new lists by operators and calls -/
def rDL (K : Fg) (g : D → D → Option (List D)) : R2 := fun x y H Q => ∃ (A : Addr → Prop) (d e : D) (r : List D), (∀ a, A a → ∃ o, H a = some o) ∧ Rp K H A x d ∧ Rp K H A y e ∧ g d e = some r ∧ ∀ p xs H', H p = none → Same H H' → H' p = some (.lst xs) → RpAll K H' (fun a => A a ∨ a = p) xs r → Q (.ref p) H'
def rLL (K : Fg) (g : List D → Option (List D)) : List V → Hp → VK → Prop := fun vs H Q => ∃ (A : Addr → Prop) (ds r : List D), (∀ a, A a → ∃ o, H a = some o) ∧ RpAll K H A vs ds ∧ g ds = some r ∧ ∀ p xs H', H p = none → Same H H' → H' p = some (.lst xs) → RpAll K H' (fun a => A a ∨ a = p) xs r → Q (.ref p) H'
def fBinL (g : D → D → Option (List D)) (fa fb : Sem1 D) : Sem1 (List D) := fun ρ s => (fa ρ s).bind fun x s1 => (fb ρ s1).bind fun y s2 => .lift (g x y) s2
def fCBL (g : List D → Option (List D)) (fl : Sem1 (List D)) : Sem1 (List D) := fun ρ s => (fl ρ s).bind fun ds s1 => .lift (g ds) s1
theorem eo_bin {op : Operator} {g : D → D → Option (List D)} {a b : Expr} (ho : OpR X (binaryOp op) (rDL X.K g)) (ha : EvE X W a fa) (hb : EvE X W b fb) : EvO X W (.BinOp a op b pos) (fBinL g fa fb) := by
  refine (pe_op ho ha hb).imp fun σ H Q q => ?_
  obtain ⟨wd, A0, A, H0, ρ, s, G, q⟩ := q
  unfold fBinL at q
  refine tE_bind G (fun x s1 v H1 e1 G1 x1 r1 => ?_) (fun c s1 H1 e1 G1 x1 => by rw [e1] at q; exact q H1 G1 x1) (fun e1 => by rw [e1] at q; exact q)
  rw [e1, Res.bind_ok] at q
  refine tE_bind G1 (fun y s2 u H2 e2 G2 x2 r2 => ?_) (fun c s2 H2 e2 G2 x2 => by rw [e2] at q; exact q H2 G2 (x1.trans x2)) (fun e2 => by rw [e2] at q; exact q)
  rw [e2, Res.bind_ok] at q
  cases e3 : g x y with
  | none => rw [e3] at q; exact q.elim
  | some r =>
    rw [e3] at q
    exact ⟨A, x, y, r, G2.ah, G1.rp r1 x2, r2, e3, fun p xs H3 np sm hp r3 => q p xs H3 (G2.same sm) (x1.trans (x2.trans (Ext.same sm))) (ext_none (x1.trans x2) p np) hp r3⟩
theorem eo_ct {T : String} {g : List D → Option (List D)} {x : Str} {p : Pos} (hc : CallR X (.type T) (rLL X.K g)) (hg : Gl X x) (hm : X.mg x = none) (hv : bootBuiltins x = some (.type T)) (ha : EvL X W (e :: es) fl) (hn : x ≠ "__name__" := by decide) (hdb : (x == ("__debug__" : Str)) = false := by decide)
    (he : starEach (e :: es) X.env = (false, eval e X.env) :: starEach es X.env := by rfl) (hpl : (backTo pos (starEach es X.env)).any (·.1) = false := by rfl) : EvO X W (.Call (.Name x p) (e :: es) [] pos) (fCBL g fl) := by
  refine (pe_callTy hc hg hm hv ha hn hdb he hpl).imp fun σ H Q q => ?_
  obtain ⟨wd, A0, A, H0, ρ, s, G, q⟩ := q
  unfold fCBL at q
  refine tL_bind G (fun ds s1 v H1 e1 G1 x1 r1 => ?_) (fun c s1 H1 e1 G1 x1 => by rw [e1] at q; exact q H1 G1 x1) (fun e1 => by rw [e1] at q; exact q)
  rw [e1, Res.bind_ok] at q
  cases e3 : g ds with
  | none => rw [e3] at q; exact q.elim
  | some r =>
    rw [e3] at q
    exact ⟨A, ds, r, G1.ah, r1, e3, fun p xs H3 np sm hp r3 => q p xs H3 (G1.same sm) (x1.trans (Ext.same sm)) (ext_none x1 p np) hp r3⟩
theorem rp_newL {K : Fg} {H : Hp} {A : Addr → Prop} {xs : List V} {ds : List D} {p : Addr} {o : HO} (np : H p = none) (r : RpAll K H A xs ds) : RpAll K (upd H p o) (fun a => A a ∨ a = p) xs ds := (r.av fun a z => z.elim .inl fun z => .inr (by rw [z]; exact np)).same (new_same np)
def gCatL (d e : D) : Option (List D) := match d, e with
  | .list a, .list b => if lineOk (a.length + b.length) = true then some (a ++ b) else none
  | _, _ => none
theorem ol_cat : OpR X (binaryOp .Add) (rDL X.K gCatL) := by
  intro pins s σ H x y v u Q I rx ry h
  obtain ⟨A, d, e, r, ah, r1, r2, hg, q⟩ := h
  unfold gCatL at hg
  split at hg
  · rename_i a b
    by_cases hl : lineOk (a.length + b.length) = true
    · rw [if_pos hl] at hg
      cases hg
      obtain ⟨p, xs, rfl, h1, h2⟩ := r1.list
      obtain ⟨p', ys, rfl, h3, h4⟩ := r2.list
      exact op_cat pins s σ H _ _ v u Q I rx ry ⟨p, p', xs, ys, rfl, rfl, h1, h3, by rw [h2.len, h4.len]; exact lineOk_le hl, fun t ht => q t _ _ ht (new_same ht) upd_same (rp_newL ht (h2.append h4))⟩
    · rw [if_neg hl] at hg; cases hg
  · cases hg
def gRepL (d e : D) : Option (List D) := match d, e with
  | .list a, .int k => if (intOk k && lineOk (a.length * k.toNat)) = true then some (List.replicate k.toNat a).flatten else none
  | _, _ => none
theorem ol_rep : OpR X (binaryOp .Mult) (rDL X.K gRepL) := by
  intro pins s σ H x y v u Q I rx ry h
  obtain ⟨A, d, e, r, ah, r1, r2, hg, q⟩ := h
  unfold gRepL at hg
  split at hg
  · rename_i a k
    by_cases hl : (intOk k && lineOk (a.length * k.toNat)) = true
    · rw [if_pos hl] at hg
      cases hg
      rw [Bool.and_eq_true] at hl
      obtain ⟨p, xs, rfl, h1, h2⟩ := r1.list
      cases rp_int r2
      have := intOk_of hl.1
      exact op_rep pins s σ H _ _ v u Q I rx ry ⟨p, k, xs, rfl, rfl, h1, by omega, by omega, by rw [h2.len]; exact lineOk_le hl.2, fun t ht => q t _ _ ht (new_same ht) upd_same (rp_newL ht (h2.rep _))⟩
    · rw [if_neg hl] at hg; cases hg
  · cases hg
def gListL (ds : List D) : Option (List D) := match ds with
  | [.list xs] => some xs
  | [.tuple xs] => some xs
  | _ => none
theorem cl_list : CallR X (.type "list") (rLL X.K gListL) := by
  intro pins s σ H xs us Q I rs h
  obtain ⟨A, ds, r, ah, r1, hg, q⟩ := h
  unfold gListL at hg
  split at hg
  · cases hg
    obtain ⟨v, rfl, h1⟩ := rp1 r1
    obtain ⟨p, ys, rfl, h2, h3⟩ := h1.list
    exact call_list_of pins s σ H _ us Q I rs ⟨p, ys, rfl, .inl (.inl (.inl h2)), fun l hl => q l _ _ hl (new_same hl) upd_same (rp_newL hl h3)⟩
  · cases hg
    obtain ⟨v, rfl, h1⟩ := rp1 r1
    obtain ⟨p, ys, rfl, h2, h3⟩ := h1.tuple
    exact call_list_of pins s σ H _ us Q I rs ⟨p, ys, rfl, .inr h2, fun l hl => q l _ _ hl (new_same hl) upd_same (rp_newL hl h3)⟩
  · cases hg
end
/-! ### max, min of three whole numbers -/
section
variable {X : Cx}
def gMax3 (ds : List D) : Option D := match ds with
  | [.int a, .int b, .int c] => some (.int (max (max a b) c))
  | _ => none
def gMin3 (ds : List D) : Option D := match ds with
  | [.int a, .int b, .int c] => some (.int (min (min a b) c))
  | _ => none
theorem nuMax2_i (a b : Int) : nuMax2 (.int a) (.int b) = some (.int (max a b)) := by
  show (some (decide (a < b))).map (fun c => if c = true then V.int b else V.int a) = _
  by_cases h : a < b
  · rw [decide_eq_true h, Int.max_eq_right (by omega)]; rfl
  · rw [decide_eq_false h, Int.max_eq_left (by omega)]; rfl
theorem nuMin2_i (a b : Int) : nuMin2 (.int a) (.int b) = some (.int (min a b)) := by
  show (some (decide (b < a))).map (fun c => if c = true then V.int b else V.int a) = _
  by_cases h : b < a
  · rw [decide_eq_true h, Int.min_eq_right (by omega)]; rfl
  · rw [decide_eq_false h, Int.min_eq_left (by omega)]; rfl
theorem rp3 {K : Fg} {H : Hp} {A : Addr → Prop} {xs : List V} {d e f : D} (r : RpAll K H A xs [d, e, f]) : ∃ v w u, xs = [v, w, u] ∧ Rp K H A v d ∧ Rp K H A w e ∧ Rp K H A u f := by
  cases r with
  | cons h r => cases r with
    | cons h2 r => cases r with
      | cons h3 r => cases r; exact ⟨_, _, _, rfl, h, h2, h3⟩
theorem cd_max3 (hc : X.calm = true) : CallR X (.builtin "max") (rL X.K gMax3) := by
  intro pins s σ H xs us Q I rs h
  obtain ⟨A, ds, r, ah, r1, hg, q⟩ := h
  unfold gMax3 at hg
  split at hg
  · rename_i a b c
    cases hg
    obtain ⟨v, w, u, rfl, h1, h2, h3⟩ := rp3 r1
    cases rp_int h1
    cases rp_int h2
    cases rp_int h3
    refine call_max3Nu hc pins s σ H _ us Q I rs ⟨_, _, _, _, rfl, ?_, q _ H (Same.refl H) (.int _)⟩
    show (nuMax2 (.int a) (.int b)).bind (fun m => nuMax2 m (.int c)) = _
    rw [nuMax2_i]; exact nuMax2_i _ _
  · cases hg
theorem cd_min3 (hc : X.calm = true) : CallR X (.builtin "min") (rL X.K gMin3) := by
  intro pins s σ H xs us Q I rs h
  obtain ⟨A, ds, r, ah, r1, hg, q⟩ := h
  unfold gMin3 at hg
  split at hg
  · rename_i a b c
    cases hg
    obtain ⟨v, w, u, rfl, h1, h2, h3⟩ := rp3 r1
    cases rp_int h1
    cases rp_int h2
    cases rp_int h3
    refine call_min3Nu hc pins s σ H _ us Q I rs ⟨_, _, _, _, rfl, ?_, q _ H (Same.refl H) (.int _)⟩
    show (nuMin2 (.int a) (.int b)).bind (fun m => nuMin2 m (.int c)) = _
    rw [nuMin2_i]; exact nuMin2_i _ _
  · cases hg
end
end Cw

namespace Cw
open PySem PySem.Spec PyProof.Rows L2
/-! ## Reading what a text computes -/
theorem lineOk_t {n : Nat} (h : n ≤ 1000000) : lineOk n = true := decide_eq_true h
section
variable {ρ : En} {s : Dk} {fa fb fc : Sem1 D} {ft fu : Sem1 Bool} {g g' : D → D → Option D}
@[simp] theorem fC_e {d : D} : fC d ρ s = .ok d s := rfl
@[simp] theorem Res.bind_ok' {α β : Type} (a : α) (s : Dk) (k : α → Dk → Res β) : (Res.ok a s).bind k = k a s := rfl
@[simp] theorem Res.lift_some {α : Type} (a : α) (s : Dk) : Res.lift (some a) s = .ok a s := rfl
@[simp] theorem asB_bool (b : Bool) : asB (.bool b) = some b := rfl
@[simp] theorem frz_nil : En.frz [] = [] := rfl
@[simp] theorem frz_cons {v : SV} {r : En} : En.frz (v :: r) = v.frz :: En.frz r := rfl
@[simp] theorem frz_va {d : D} : (SV.va d).frz = .va d := rfl
@[simp] theorem frz_un : SV.un.frz = .un := rfl
@[simp] theorem frz_dk {k : Nat} : (SV.dk k).frz = .dk k := rfl
@[simp] theorem frz_ow {ds : List D} : (SV.ow (.lst ds)).frz = .va (.list ds) := rfl
@[simp] theorem frz_sc {n : List Int} : (SV.sc n).frz = .sc n := rfl
@[simp] theorem wipeE_nil : wipeE ρ [] = ρ := rfl
@[simp] theorem wipeE_cons {i : Nat} {r : List Nat} : wipeE ρ (i :: r) = (wipeE ρ r).set i .un := rfl
theorem fVar_ok {i : Nat} {d : D} (h : ρ[i]? = some (.va d)) : fVar i ρ s = .ok d s := by unfold fVar; rw [h]
theorem fBin_ok {x y z : D} {s1 s2 : Dk} (ha : fa ρ s = .ok x s1) (hb : fb ρ s1 = .ok y s2) (hg : g x y = some z) : fBin g fa fb ρ s = .ok z s2 := by unfold fBin; rw [ha, Res.bind_ok, hb, Res.bind_ok, hg]; rfl
theorem fUn_ok {g : D → Option D} {x z : D} {s1 : Dk} (ha : fa ρ s = .ok x s1) (hg : g x = some z) : fUn g fa ρ s = .ok z s1 := by unfold fUn; rw [ha, Res.bind_ok, hg]; rfl
theorem fTest_ok {b : Bool} {s1 : Dk} (ha : fa ρ s = .ok (.bool b) s1) : fTest fa ρ s = .ok b s1 := by unfold fTest; rw [ha]; rfl
theorem fChain_ok {x y z : D} {b c : Bool} (ha : fa ρ s = .ok x s) (hb : fb ρ s = .ok y s) (hc : fc ρ s = .ok z s) (hg : g x y = some (.bool b)) (hg2 : g' y z = some (.bool c)) : fChain g g' fa fb fc ρ s = .ok (.bool (b && c)) s := by
  unfold fChain
  rw [ha, Res.bind_ok, hb, Res.bind_ok, hg]
  show (if b = true then _ else _) = _
  cases b with
  | true => rw [if_pos rfl, hc, Res.bind_ok, hg2]; rfl
  | false => rw [if_neg (by decide)]; rfl
theorem fAndV_ok {b c : Bool} (ha : fa ρ s = .ok (.bool b) s) (hb : b = true → fb ρ s = .ok (.bool c) s) : fAndV fa fb ρ s = .ok (.bool (b && c)) s := by
  unfold fAndV
  rw [ha, Res.bind_ok]
  show (if b = true then _ else _) = _
  cases b with
  | true => rw [if_pos rfl, hb rfl]; rfl
  | false => rw [if_neg (by decide)]; rfl
theorem fOrV_ok {b c : Bool} (ha : fa ρ s = .ok (.bool b) s) (hb : b = false → fb ρ s = .ok (.bool c) s) : fOrV fa fb ρ s = .ok (.bool (b || c)) s := by
  unfold fOrV
  rw [ha, Res.bind_ok]
  show (if b = true then _ else _) = _
  cases b with
  | true => rw [if_pos rfl]; rfl
  | false => rw [if_neg (by decide), hb rfl]; rfl
theorem fNotV_ok {b : Bool} {s1 : Dk} (ha : fa ρ s = .ok (.bool b) s1) : fNotV fa ρ s = .ok (.bool !b) s1 := by unfold fNotV; rw [ha]; rfl
theorem fNotT_ok {b : Bool} {s1 : Dk} (ha : ft ρ s = .ok b s1) : fNotT ft ρ s = .ok (!b) s1 := by unfold fNotT; rw [ha]; rfl
theorem fAndT_ok {b c : Bool} (ha : ft ρ s = .ok b s) (hb : b = true → fu ρ s = .ok c s) : fAndT ft fu ρ s = .ok (b && c) s := by
  unfold fAndT
  rw [ha, Res.bind_ok]
  cases b with
  | true => rw [if_pos rfl, hb rfl]; rfl
  | false => rw [if_neg (by decide)]; rfl
theorem fOrT_ok {b c : Bool} (ha : ft ρ s = .ok b s) (hb : b = false → fu ρ s = .ok c s) : fOrT ft fu ρ s = .ok (b || c) s := by
  unfold fOrT
  rw [ha, Res.bind_ok]
  cases b with
  | true => rw [if_pos rfl]; rfl
  | false => rw [if_neg (by decide), hb rfl]; rfl
theorem fIf_ok {b : Bool} {d : D} {s1 s2 : Dk} (ha : ft ρ s = .ok b s1) (hb : (if b = true then fa ρ s1 else fb ρ s1) = .ok d s2) : fIf ft fa fb ρ s = .ok d s2 := by unfold fIf; rw [ha, Res.bind_ok, hb]
section
variable {fl : Sem1 (List D)} {fs : Sem1 (List SV)} {gl : List D → Option D}
theorem fNil_ok {α : Type} : (fNil : Sem1 (List α)) ρ s = .ok [] s := rfl
theorem fCons_ok {x : D} {xs : List D} {s1 s2 : Dk} (ha : fa ρ s = .ok x s1) (hb : fl ρ s1 = .ok xs s2) : fCons fa fl ρ s = .ok (x :: xs) s2 := by unfold fCons; rw [ha, Res.bind_ok, hb]; rfl
theorem fConsA_ok {x : D} {xs : List SV} {s1 s2 : Dk} (ha : fa ρ s = .ok x s1) (hb : fs ρ s1 = .ok xs s2) : fConsA fa fs ρ s = .ok (.va x :: xs) s2 := by unfold fConsA; rw [ha, Res.bind_ok, hb]; rfl
theorem fConsV_dk {i k : Nat} {xs : List SV} {s2 : Dk} (h : ρ[i]? = some (.dk k)) (hb : fs ρ s = .ok xs s2) : fConsV i fs ρ s = .ok (.dk k :: xs) s2 := by unfold fConsV; rw [h]; show (fs ρ s).bind _ = _; rw [hb]; rfl
theorem fCB_ok {xs : List D} {z : D} {s1 : Dk} (ha : fl ρ s = .ok xs s1) (hg : gl xs = some z) : fCB gl fl ρ s = .ok z s1 := by unfold fCB; rw [ha, Res.bind_ok, hg]; rfl
theorem fCall_ok {m : List SV → Dk → Res D} {xs : List SV} {d : D} {s1 s2 : Dk} (ha : fs ρ s = .ok xs s1) (hm : m xs s1 = .ok d s2) : fCall m fs ρ s = .ok d s2 := by unfold fCall; rw [ha, Res.bind_ok, hm]
theorem fCallK_ok {m : List SV → Dk → Res D} {a b : Nat} {π : List Nat} {fk : Sem1 (List SV)} {xs ys : List SV} {d : D} {s1 s2 s3 : Dk} (ha : fs ρ s = .ok xs s1) (hk : fk ρ s1 = .ok ys s2) (hm : m (arr a b π xs ys) s2 = .ok d s3) : fCallK m a b π fs fk ρ s = .ok d s3 := by unfold fCallK; rw [ha, Res.bind_ok, hk, Res.bind_ok, hm]
theorem fTup_ok {xs : List D} {s1 : Dk} (ha : fl ρ s = .ok xs s1) (hl : xs.length ≤ 1000000) : fTup fl ρ s = .ok (.tuple xs) s1 := by unfold fTup; rw [ha, Res.bind_ok, if_pos (lineOk_t hl)]
theorem fLst_ok {xs : List D} {s1 : Dk} (ha : fl ρ s = .ok xs s1) : fLst fl ρ s = .ok (.list xs) s1 := by unfold fLst; rw [ha]; rfl
theorem fLine_ok {xs : List D} {s1 : Dk} (ha : fl ρ s = .ok xs s1) (hl : xs.length ≤ 1000000) : fLine fl ρ s = .ok xs s1 := by unfold fLine; rw [ha, Res.bind_ok, if_pos (lineOk_t hl)]
theorem fItems_ok {d : D} {xs : List D} {s1 : Dk} (ha : fa ρ s = .ok d s1) (h : itemsD d = some xs) : fItems fa ρ s = .ok xs s1 := by unfold fItems; rw [ha, Res.bind_ok, h]; rfl
theorem fZip_ok {d e : D} {xs ys : List D} {s1 : Dk} (ha : fl ρ s = .ok [d, e] s1) (h : itemsD d = some xs) (h2 : itemsD e = some ys) : fZip fl ρ s = .ok (zipD xs ys) s1 := by unfold fZip; rw [ha, Res.bind_ok]; simp only [h, h2]
/-- 0, .., n - 1 -/
def upto (n : Nat) : List Int := (List.range n).map fun (i : Nat) => (i : Int)
theorem range_dat (n : Nat) : ((List.range n).map fun (i : Nat) => PyData.int (0 + i)) = (upto n).map PyData.int := by
  unfold upto
  rw [List.map_map]
  exact List.map_congr_left fun i _ => by simp
theorem upto_len (n : Nat) : (upto n).length = n := by unfold upto; rw [List.length_map, List.length_range]
theorem mem_upto {n : Nat} {i : Int} : i ∈ upto n ↔ 0 ≤ i ∧ i < n := by
  unfold upto
  rw [List.mem_map]
  constructor
  · rintro ⟨k, h, rfl⟩
    have := List.mem_range.mp h
    omega
  · rintro ⟨h1, h2⟩
    exact ⟨i.toNat, List.mem_range.mpr (by omega), by omega⟩
theorem fRange1_ok {n : Nat} {s1 : Dk} (ha : fl ρ s = .ok [.int n] s1) (h : n < 2 ^ 62) : fRange1 fl ρ s = .ok ((upto n).map PyData.int) s1 := by
  unfold fRange1
  rw [ha, Res.bind_ok]
  simp only
  rw [if_pos (by unfold intOk; rw [Bool.and_eq_true]; exact ⟨decide_eq_true (by omega), decide_eq_true (by omega)⟩), ← range_dat]
  rfl
theorem fLRg1_ok {n : Nat} {s1 : Dk} (ha : fa ρ s = .ok (.int n) s1) (h : n ≤ 1000000) : fLRg1 fa ρ s = .ok ((upto n).map PyData.int) s1 := by
  unfold fLRg1
  rw [ha, Res.bind_ok]
  simp only
  rw [if_pos]
  · unfold rgD
    rw [show ((n : Int) - 0).toNat = n by omega, ← range_dat]
  · unfold rgOkB intOk lineOk
    rw [Bool.and_eq_true, Bool.and_eq_true, Bool.and_eq_true, Bool.and_eq_true]
    exact ⟨⟨⟨decide_eq_true (by omega), decide_eq_true (by omega)⟩, decide_eq_true (by omega), decide_eq_true (by omega)⟩, decide_eq_true (by omega)⟩
end
/-! ### comprehensions without draws -/
theorem lcL_map {α : Type} {δ : α → D} {sg : SemG} {F : α → D} : ∀ {xs : List α}, (∀ x ∈ xs, ∃ ρ1, sg (δ x) ρ = some ρ1 ∧ ft ρ1 s = .ok true s ∧ fa ρ1 s = .ok (F x) s) → lcL sg ft fa ρ (xs.map δ) s = .ok (xs.map F) s
  | [], _ => rfl
  | x :: xs, h => by
    obtain ⟨ρ1, h1, h2, h3⟩ := h x List.mem_cons_self
    rw [List.map_cons]
    unfold lcL
    simp only [h1, h2, h3, lcL_map fun e he => h e (List.mem_cons_of_mem _ he)]
    rfl
theorem fLc_map {α : Type} {δ : α → D} {sg : SemG} {F : α → D} {fi : Sem1 (List D)} {vs : List Nat} {s1 : Dk} {xs : List α} (hi : fi ρ s = .ok (xs.map δ) s1) (hl : xs.length ≤ 1000000) (h : ∀ x ∈ xs, ∃ ρ1, sg (δ x) (wipeE ρ vs) = some ρ1 ∧ ft ρ1 s1 = .ok true s1 ∧ fa ρ1 s1 = .ok (F x) s1) : fLc fi sg ft fa vs ρ s = .ok (xs.map F) s1 := by
  unfold fLc
  rw [hi, Res.bind_ok, if_pos (lineOk_t (by rw [List.length_map]; exact hl))]
  exact lcL_map h
theorem lcL_filter {α : Type} {δ : α → D} {sg : SemG} {F : α → D} {p : α → Bool} : ∀ {xs : List α}, (∀ x ∈ xs, ∃ ρ1, sg (δ x) ρ = some ρ1 ∧ ft ρ1 s = .ok (p x) s ∧ (p x = true → fa ρ1 s = .ok (F x) s)) → lcL sg ft fa ρ (xs.map δ) s = .ok ((xs.filter p).map F) s
  | [], _ => rfl
  | x :: xs, h => by
    obtain ⟨ρ1, h1, h2, h3⟩ := h x List.mem_cons_self
    have ih := lcL_filter (F := F) fun e he => h e (List.mem_cons_of_mem _ he)
    rw [List.map_cons]
    unfold lcL
    simp only [h1, h2]
    cases e : p x with
    | true => simp only [h3 e, ih, List.filter_cons, e, if_true]; rfl
    | false => simp only [ih, List.filter_cons, e]; rfl
theorem fLc_filter {α : Type} {δ : α → D} {sg : SemG} {F : α → D} {p : α → Bool} {fi : Sem1 (List D)} {vs : List Nat} {s1 : Dk} {xs : List α} (hi : fi ρ s = .ok (xs.map δ) s1) (hl : xs.length ≤ 1000000) (h : ∀ x ∈ xs, ∃ ρ1, sg (δ x) (wipeE ρ vs) = some ρ1 ∧ ft ρ1 s1 = .ok (p x) s1 ∧ (p x = true → fa ρ1 s1 = .ok (F x) s1)) : fLc fi sg ft fa vs ρ s = .ok ((xs.filter p).map F) s1 := by
  unfold fLc
  rw [hi, Res.bind_ok, if_pos (lineOk_t (by rw [List.length_map]; exact hl))]
  exact lcL_filter h
theorem lc2L_map {α β : Type} {δ : α → D} {ε : β → D} {sg sg1 : SemG} {F : α → β → D} {fi1 : Sem1 (List D)} {ys : α → List β} {vs1 : List Nat} : ∀ {xs : List α}, (∀ x ∈ xs, ∃ ρ1, sg (δ x) ρ = some ρ1 ∧ ft ρ1 s = .ok true s ∧ fi1 ρ1 s = .ok ((ys x).map ε) s ∧ ∀ y ∈ ys x, ∃ ρ2, sg1 (ε y) (wipeE ρ1 vs1) = some ρ2 ∧ fu ρ2 s = .ok true s ∧ fa ρ2 s = .ok (F x y) s) →
    lc2L sg ft fi1 sg1 fu fa vs1 ρ (xs.map δ) s = .ok (xs.flatMap fun x => (ys x).map (F x)) s
  | [], _ => rfl
  | x :: xs, h => by
    obtain ⟨ρ1, h1, h2, h3, h4⟩ := h x List.mem_cons_self
    have ih := lc2L_map (F := F) (ys := ys) fun e he => h e (List.mem_cons_of_mem _ he)
    rw [List.map_cons]
    unfold lc2L
    simp only [h1, h2, h3, lcL_map (F := F x) h4, Res.bind_ok, ih, List.flatMap_cons]
theorem fLc2_map {α β : Type} {δ : α → D} {ε : β → D} {sg sg1 : SemG} {F : α → β → D} {fi fi1 : Sem1 (List D)} {ys : α → List β} {vs vs1 : List Nat} {xs : List α} {s1 : Dk} (hi : fi ρ s = .ok (xs.map δ) s1) (hl : (xs.flatMap ys).length ≤ 1000000) (h : ∀ x ∈ xs, ∃ ρ1, sg (δ x) (wipeE ρ vs) = some ρ1 ∧ ft ρ1 s1 = .ok true s1 ∧ fi1 ρ1 s1 = .ok ((ys x).map ε) s1 ∧ ∀ y ∈ ys x, ∃ ρ2, sg1 (ε y) (wipeE ρ1 vs1) = some ρ2 ∧ fu ρ2 s1 = .ok true s1 ∧ fa ρ2 s1 = .ok (F x y) s1) :
    fLc2 fi sg ft fi1 sg1 fu fa vs vs1 ρ s = .ok (xs.flatMap fun x => (ys x).map (F x)) s1 := by
  unfold fLc2
  rw [hi, Res.bind_ok, lc2L_map h, Res.bind_ok]
  unfold finL
  rw [if_pos]
  · rfl
  · refine lineOk_t ?_
    rw [List.nil_append]
    have : (xs.flatMap fun x => (ys x).map (F x)).length = (xs.flatMap ys).length := by
      clear h hi hl
      induction xs with
      | nil => rfl
      | cons x xs ih => simp only [List.flatMap_cons, List.length_append, List.length_map, ih]
    omega
/-! ### statements -/
section
variable {f1 f2 : SemS} {ρ' : En} {s1 s2 : Dk} {r : RS}
theorem sSeq_nx (h : f1 ρ s = .nx ρ' s1) (h2 : f2 ρ' s1 = r) : sSeq f1 f2 ρ s = r := by unfold sSeq; rw [h]; exact h2
theorem sSeq_rt {d : D} (h : f1 ρ s = .rt d s1) : sSeq f1 f2 ρ s = .rt d s1 := by unfold sSeq; rw [h]
theorem sSeq_exc {c : Str} (h : f1 ρ s = .exc c ρ' s1) : sSeq f1 f2 ρ s = .exc c ρ' s1 := by unfold sSeq; rw [h]
theorem sIf_ok {b : Bool} (h : ft ρ s = .ok b s1) (h2 : (if b = true then f1 ρ s1 else f2 ρ s1) = r) : sIf ft f1 f2 ρ s = r := by unfold sIf; rw [h]; exact h2
theorem sIf_F (h : ft ρ s = .ok false s1) (h2 : f2 ρ s1 = r) : sIf ft f1 f2 ρ s = r := by unfold sIf; rw [h]; exact h2
theorem sIf_T (h : ft ρ s = .ok true s1) (h2 : f1 ρ s1 = r) : sIf ft f1 f2 ρ s = r := by unfold sIf; rw [h]; exact h2
theorem sAsg_ok {d : D} {sg : SemG} (h : fa ρ s = .ok d s1) (h2 : sg d ρ = some ρ') : sAsg fa sg ρ s = .nx ρ' s1 := by unfold sAsg; rw [h]; show (match sg d ρ with | some ρ' => RS.nx ρ' s1 | none => .bad) = _; rw [h2]
theorem sExpr_ok {d : D} (h : fa ρ s = .ok d s1) : sExpr fa ρ s = .nx ρ s1 := by unfold sExpr; rw [h]; rfl
theorem sExpr_exc {c : Str} (h : fa ρ s = .exc c s1) : sExpr fa ρ s = .exc c ρ s1 := by unfold sExpr; rw [h]; rfl
theorem sRet_ok {d : D} (h : fa ρ.frz s = .ok d s1) : sRet fa ρ s = .rt d s1 := by unfold sRet; rw [h]
theorem sPar_ok {i j : Nat} {fs : Sem1 (List SV)} {a b : D} (h : fs ρ s = .ok [.va a, .va b] s1) : sPar i j fs ρ s = .nx ((ρ.set i (.va a)).set j (.va b)) s1 := by unfold sPar; rw [h]; rfl
theorem sPar3_ok {i j l : Nat} {fs : Sem1 (List SV)} {a b c : D} (h : fs ρ s = .ok [.va a, .va b, .va c] s1) : sPar3 i j l fs ρ s = .nx (((ρ.set i (.va a)).set j (.va b)).set l (.va c)) s1 := by unfold sPar3; rw [h]; rfl
theorem sFor_ok {fi : Sem1 (List D)} {sg : SemG} {ds : List D} (h : fi ρ s = .ok ds s1) (h2 : forL sg f1 ds ρ s1 = r) : sFor fi sg f1 ρ s = r := by unfold sFor; rw [h]; exact h2
theorem mBody_rt {n k : Nat} {svs : List SV} {d : D} (hl : svs.length = n) (h : f1 (svs ++ List.replicate k .un) s = .rt d s1) : mBody n k f1 svs s = .ok d s1 := by unfold mBody; rw [if_pos hl, h]
theorem mBody_nx {n k : Nat} {svs : List SV} (hl : svs.length = n) (h : f1 (svs ++ List.replicate k .un) s = .nx ρ' s1) : mBody n k f1 svs s = .ok .none s1 := by unfold mBody; rw [if_pos hl, h]
theorem mBody_exc {n k : Nat} {svs : List SV} {c : Str} (hl : svs.length = n) (h : f1 (svs ++ List.replicate k .un) s = .exc c ρ' s1) : mBody n k f1 svs s = .exc c s1 := by unfold mBody; rw [if_pos hl, h]
end
end
theorem fView_ok {fa : Sem1 D} {ρ : En} {s s1 : Dk} {d : D} (h : fa ρ.frz s = .ok d s1) (hp : pureD d = true) : fView fa ρ s = .ok d s1 := by unfold fView; rw [h]; simp only [hp, if_true]
theorem whL_step {ft : Sem1 Bool} {fb : SemS} {n : Nat} {ρ ρ2 : En} {s s1 s2 : Dk} (h : ft ρ s = .ok true s1) (h2 : fb ρ s1 = .nx ρ2 s2) : whL ft fb (n + 1) ρ s = whL ft fb n ρ2 s2 := by
  show (ft ρ s).bindS ρ _ = _
  rw [h]
  show (if true = true then (match fb ρ s1 with
    | .nx ρ2 s2 => whL ft fb n ρ2 s2
    | .ct ρ2 s2 => whL ft fb n ρ2 s2
    | .bk ρ2 s2 => .nx ρ2 s2
    | r => r) else .nx ρ s1) = _
  rw [if_pos rfl, h2]
theorem whL_stop {ft : Sem1 Bool} {fb : SemS} {n : Nat} {ρ : En} {s s1 : Dk} (h : ft ρ s = .ok false s1) : whL ft fb (n + 1) ρ s = .nx ρ s1 := by
  show (ft ρ s).bindS ρ _ = _
  rw [h]; rfl
theorem whL_rt {ft : Sem1 Bool} {fb : SemS} {n : Nat} {ρ : En} {s s1 s2 : Dk} {d : D} (h : ft ρ s = .ok true s1) (h2 : fb ρ s1 = .rt d s2) : whL ft fb (n + 1) ρ s = .rt d s2 := by
  show (ft ρ s).bindS ρ _ = _
  rw [h]
  show (if true = true then (match fb ρ s1 with
    | .nx ρ2 s2 => whL ft fb n ρ2 s2
    | .ct ρ2 s2 => whL ft fb n ρ2 s2
    | .bk ρ2 s2 => .nx ρ2 s2
    | r => r) else .nx ρ s1) = _
  rw [if_pos rfl, h2]
theorem forL_nx {sg : SemG} {fb : SemS} {d : D} {ds : List D} {ρ ρ1 ρ2 : En} {s s2 : Dk} (h : sg d ρ = some ρ1) (h2 : fb ρ1 s = .nx ρ2 s2) : forL sg fb (d :: ds) ρ s = forL sg fb ds ρ2 s2 := by
  show (match sg d ρ with
    | none => RS.bad
    | some ρ1 => match fb ρ1 s with
      | .nx ρ2 s2 => forL sg fb ds ρ2 s2
      | .ct ρ2 s2 => forL sg fb ds ρ2 s2
      | .bk ρ2 s2 => .nx ρ2 s2
      | r => r) = _
  rw [h]
  show (match fb ρ1 s with
      | .nx ρ2 s2 => forL sg fb ds ρ2 s2
      | .ct ρ2 s2 => forL sg fb ds ρ2 s2
      | .bk ρ2 s2 => .nx ρ2 s2
      | r => r) = _
  rw [h2]
theorem forL_rt {sg : SemG} {fb : SemS} {d : D} {ds : List D} {ρ ρ1 : En} {s s2 : Dk} {x : D} (h : sg d ρ = some ρ1) (h2 : fb ρ1 s = .rt x s2) : forL sg fb (d :: ds) ρ s = .rt x s2 := by
  show (match sg d ρ with
    | none => RS.bad
    | some ρ1 => match fb ρ1 s with
      | .nx ρ2 s2 => forL sg fb ds ρ2 s2
      | .ct ρ2 s2 => forL sg fb ds ρ2 s2
      | .bk ρ2 s2 => .nx ρ2 s2
      | r => r) = _
  rw [h]
  show (match fb ρ1 s with
      | .nx ρ2 s2 => forL sg fb ds ρ2 s2
      | .ct ρ2 s2 => forL sg fb ds ρ2 s2
      | .bk ρ2 s2 => .nx ρ2 s2
      | r => r) = _
  rw [h2]
/-! ### operators of whole numbers, truth values, data -/
section
variable {a b : Int}
theorem gAdd_i : gAdd (.int a) (.int b) = some (.int (a + b)) := rfl
theorem gSub_i : gSub (.int a) (.int b) = some (.int (a - b)) := rfl
theorem gMod_i (h : 0 < b) : gMod (.int a) (.int b) = some (.int (a % b)) := by unfold gMod; simp only; rw [if_pos (decide_eq_true h)]
theorem gLt_i : gLt (.int a) (.int b) = some (.bool (decide (a < b))) := rfl
theorem gLe_i : gLe (.int a) (.int b) = some (.bool (decide (a ≤ b))) := rfl
theorem gGt_i : gGt (.int a) (.int b) = some (.bool (decide (b < a))) := rfl
theorem gGe_i : gGe (.int a) (.int b) = some (.bool (decide (b ≤ a))) := rfl
theorem gEq_i : gEq (.int a) (.int b) = some (.bool (decide (a = b))) := gEq_dat (α := Int) (by decide) a b
theorem gNe_i : gNe (.int a) (.int b) = some (.bool (!decide (a = b))) := gNe_dat (α := Int) (by decide) a b
theorem gEq_b {a b : Bool} : gEq (.bool a) (.bool b) = some (.bool (decide (a = b))) := gEq_dat (α := Bool) (by decide) a b
theorem gNe_b {a b : Bool} : gNe (.bool a) (.bool b) = some (.bool (!decide (a = b))) := gNe_dat (α := Bool) (by decide) a b
theorem gIx_l {xs : List D} {n : Nat} {d : D} (h : xs[n]? = some d) : gIx (.list xs) (.int n) = some d := by
  have hl : n < xs.length := (List.getElem?_eq_some_iff.mp h).1
  show atI xs n = _
  unfold atI ixN
  rw [if_pos (by omega), if_pos (by omega)]
  simpa using h
theorem gIx_t {xs : List D} {n : Nat} {d : D} (h : xs[n]? = some d) : gIx (.tuple xs) (.int n) = some d := gIx_l (xs := xs) h
theorem gAll_b {bs : List Bool} : gAll [.list (bs.map PyData.bool)] = some (.bool (bs.all id)) := by
  show (boolsOf (bs.map PyData.bool)).map _ = _
  rw [boolsOf_map]; rfl
end
theorem zipD_map {α β : Type} (δ : α → D) (ε : β → D) : ∀ (xs : List α) (ys : List β), zipD (xs.map δ) (ys.map ε) = (xs.zip ys).map fun p => PyData.tuple [δ p.1, ε p.2]
  | [], _ => rfl
  | _ :: _, [] => rfl
  | x :: xs, y :: ys => by
    have ih := zipD_map δ ε xs ys
    unfold zipD at ih ⊢
    simp only [List.map_cons, List.zip_cons_cons]
    rw [ih]
end Cw

namespace Cw
open PySem PySem.Spec PyProof.Rows L2
/-! ## Draws -/
/-- the machine of kind k is well, after at most b turns -/
def Iv (k b : Nat) (s : Dk) : Prop := k = 3 ∧ 0 ≤ s.2.1 ∧ s.2.1 < s.1.length ∧ 0 ≤ s.2.2 ∧ s.2.2 ≤ b ∧ s.1.length ≤ 1000000
theorem Iv.mono {k b c : Nat} {s : Dk} (h : Iv k b s) (hb : b ≤ c) : Iv k c s := ⟨h.1, h.2.1, h.2.2.1, h.2.2.2.1, by have := h.2.2.2.2.1; omega, h.2.2.2.2.2⟩
abbrev LB : Nat := 10 ^ 18
theorem drawC_ok {b : Nat} {m : Int} {s : Dk} (h : Iv 3 b s) (hb : b + 1 ≤ LB) (h0 : 0 < m) (h1 : m < 2 ^ 64) : ∃ (k : Int) (s' : Dk), mDrawC [.dk 3, .va (.int m)] s = .ok (.int k) s' ∧ 0 ≤ k ∧ k < m ∧ Iv 3 (b + 1) s' := by
  obtain ⟨_, a1, a2, t1, t2, l⟩ := h
  show ∃ (k : Int) (s' : Dk), drawC m s = .ok (.int k) s' ∧ _
  unfold drawC
  have hl : (0 : Int) < s.1.length := by omega
  rw [if_pos]
  · have e1 := Int.emod_nonneg (s.2.1 + 1) (show (s.1.length : Int) ≠ 0 by omega)
    have e2 := Int.emod_lt_of_pos (s.2.1 + 1) hl
    by_cases big : 10 ^ 18 ≤ s.1.getD s.2.1.toNat 0
    · rw [if_pos big]
      exact ⟨_, _, rfl, Int.emod_nonneg _ (by omega), Int.emod_lt_of_pos _ h0, rfl, e1, by rw [List.length_set]; exact e2, by show (0 : Int) ≤ s.2.2 + 1; omega, by show s.2.2 + 1 ≤ ((b + 1 : Nat) : Int); omega, by rw [List.length_set]; exact l⟩
    · rw [if_neg big]
      exact ⟨_, _, rfl, Int.emod_nonneg _ (by omega), Int.emod_lt_of_pos _ h0, rfl, e1, e2, by show (0 : Int) ≤ s.2.2 + 1; omega, by show s.2.2 + 1 ≤ ((b + 1 : Nat) : Int); omega, l⟩
  · unfold okC limC
    simp only [Bool.and_eq_true, decide_eq_true_eq]
    refine ⟨⟨⟨⟨⟨⟨a1, a2⟩, t1⟩, ?_⟩, lineOk_t l⟩, h0⟩, h1⟩
    have : (b : Int) + 1 ≤ 10 ^ 18 := by exact_mod_cast hb
    omega
theorem Iv.start {ns : List Int} (h : ns.length ≤ 63) : Iv 3 0 (srcC ns, 0, 0) := by
  have h1 : 0 < (srcC ns).length ∧ (srcC ns).length ≤ 63 := by
    unfold srcC
    split
    · exact ⟨by decide, by decide⟩
    · rename_i h2
      refine ⟨List.length_pos_iff.mpr h2, ?_⟩
      unfold srcCells
      rw [List.length_map, List.length_take]; omega
  exact ⟨rfl, Int.le_refl _, by show (0 : Int) < ((srcC ns).length : Int); omega, Int.le_refl _, Int.le_refl _, by show (srcC ns).length ≤ 1000000; omega⟩
/-- r draws at most c times and then gives what P says -/
def Dr {α : Type} (k c : Nat) (r : Dk → Res α) (P : α → Prop) : Prop := ∀ b s, Iv k b s → b + c ≤ LB → ∃ a s', r s = .ok a s' ∧ P a ∧ Iv k (b + c) s'
theorem Dr.pure {α : Type} {k : Nat} {r : Dk → Res α} {P : α → Prop} {a : α} (h : ∀ s, r s = .ok a s) (p : P a) : Dr k 0 r P := fun b s i _ => ⟨a, s, h s, p, i⟩
theorem Dr.more {α : Type} {k c d : Nat} {r : Dk → Res α} {P : α → Prop} (h : Dr k c r P) (hd : c ≤ d) : Dr k d r P := fun b s i l => by
  obtain ⟨a, s', e, p, i'⟩ := h b s i (by omega)
  exact ⟨a, s', e, p, i'.mono (by omega)⟩
theorem Dr.imp {α : Type} {k c : Nat} {r : Dk → Res α} {P Q : α → Prop} (h : Dr k c r P) (hq : ∀ a, P a → Q a) : Dr k c r Q := fun b s i l => by
  obtain ⟨a, s', e, p, i'⟩ := h b s i l
  exact ⟨a, s', e, hq a p, i'⟩
theorem Dr.draw {m : Int} (h0 : 0 < m) (h1 : m < 2 ^ 64) : Dr 3 1 (mDrawC [.dk 3, .va (.int m)]) fun d => ∃ k : Int, d = .int k ∧ 0 ≤ k ∧ k < m := fun b s i l => by
  obtain ⟨k, s', e, a1, a2, i'⟩ := drawC_ok i l h0 h1
  exact ⟨_, s', e, ⟨k, rfl, a1, a2⟩, i'⟩
theorem Dr.bind {α β : Type} {k c d : Nat} {r : Dk → Res α} {f : α → Dk → Res β} {P : α → Prop} {Q : β → Prop} (h : Dr k c r P) (h2 : ∀ a, P a → Dr k d (f a) Q) : Dr k (c + d) (fun s => (r s).bind f) Q := fun b s i l => by
  obtain ⟨a, s1, e, p, i1⟩ := h b s i (by omega)
  obtain ⟨y, s2, e2, p2, i2⟩ := h2 a p _ s1 i1 (by omega)
  refine ⟨y, s2, ?_, p2, i2.mono (by omega)⟩
  show (r s).bind f = _
  rw [e, Res.bind_ok]; exact e2
/-- a comprehension whose items draw at most c times each -/
theorem Dr.lcL {α β : Type} {k c : Nat} {ρ : En} {δ : α → D} {ε : β → D} {sg : SemG} {ft : Sem1 Bool} {fa : Sem1 D} {P : α → β → Prop} : ∀ {xs : List α}, (∀ x ∈ xs, ∃ ρ1, sg (δ x) ρ = some ρ1 ∧ (∀ s, ft ρ1 s = .ok true s) ∧ Dr k c (fa ρ1) fun d => ∃ y, d = ε y ∧ P x y) →
    Dr k (xs.length * c) (lcL sg ft fa ρ (xs.map δ)) fun ds => ∃ ys : List β, ds = ys.map ε ∧ Paired P xs ys
  | [], _ => fun b s i l => ⟨[], s, rfl, ⟨[], rfl, .nil⟩, i.mono (by omega)⟩
  | x :: xs, h => fun b s i l => by
    have hl : (x :: xs).length * c = c + xs.length * c := by rw [List.length_cons, Nat.succ_mul, Nat.add_comm]
    rw [hl] at l ⊢
    obtain ⟨ρ1, h1, h2, h3⟩ := h x List.mem_cons_self
    obtain ⟨d, s1, e1, ⟨y, rfl, p⟩, i1⟩ := h3 b s i (by omega)
    obtain ⟨ds, s2, e2, ⟨ys, rfl, ps⟩, i2⟩ := Dr.lcL (xs := xs) (fun e he => h e (List.mem_cons_of_mem _ he)) _ s1 i1 (by omega)
    refine ⟨_, s2, ?_, ⟨y :: ys, rfl, .cons p ps⟩, i2.mono (by omega)⟩
    rw [List.map_cons]
    unfold Cw.lcL
    simp only [h1, h2, e1, e2]
    rfl
theorem Dr.lc {α β : Type} {k c : Nat} {ρ : En} {δ : α → D} {ε : β → D} {sg : SemG} {ft : Sem1 Bool} {fa : Sem1 D} {fi : Sem1 (List D)} {vs : List Nat} {P : α → β → Prop} {xs : List α} (hi : ∀ s, fi ρ s = .ok (xs.map δ) s) (hl : xs.length ≤ 1000000)
    (h : ∀ x ∈ xs, ∃ ρ1, sg (δ x) (wipeE ρ vs) = some ρ1 ∧ (∀ s, ft ρ1 s = .ok true s) ∧ Dr k c (fa ρ1) fun d => ∃ y, d = ε y ∧ P x y) : Dr k (xs.length * c) (fLc fi sg ft fa vs ρ) fun ds => ∃ ys : List β, ds = ys.map ε ∧ Paired P xs ys := fun b s i l => by
  obtain ⟨a, s', e, p, i'⟩ := Dr.lcL h b s i l
  refine ⟨a, s', ?_, p, i'⟩
  unfold fLc
  rw [hi, Res.bind_ok, if_pos (lineOk_t (by rw [List.length_map]; exact hl))]
  exact e
/-- a built-in function behind one argument that draws -/
theorem Dr.cb1 {k c : Nat} {ρ : En} {fa : Sem1 D} {g : List D → Option D} {P Q : D → Prop} (h : Dr k c (fa ρ) P) (h2 : ∀ d, P d → ∃ e, g [d] = some e ∧ Q e) : Dr k c (fCB g (fCons fa fNil) ρ) Q := fun b s i l => by
  obtain ⟨d, s1, e, p, i1⟩ := h b s i l
  obtain ⟨y, e2, q⟩ := h2 d p
  exact ⟨y, s1, fCB_ok (fCons_ok e fNil_ok) e2, q, i1⟩
theorem Dr.lst {k c : Nat} {ρ : En} {fl : Sem1 (List D)} {P : List D → Prop} (h : Dr k c (fl ρ) P) : Dr k c (fLst fl ρ) fun d => ∃ ds, d = .list ds ∧ P ds := fun b s i l => by
  obtain ⟨d, s1, e, p, i1⟩ := h b s i l
  exact ⟨_, s1, fLst_ok e, ⟨d, rfl, p⟩, i1⟩
/-! ### statements that draw -/
/-- f goes on to an env that P says -/
def DrS (k c : Nat) (f : Dk → RS) (P : En → Prop) : Prop := ∀ b s, Iv k b s → b + c ≤ LB → ∃ ρ s', f s = .nx ρ s' ∧ P ρ ∧ Iv k (b + c) s'
theorem DrS.pure {k : Nat} {f : Dk → RS} {ρ : En} {P : En → Prop} (h : ∀ s, f s = .nx ρ s) (p : P ρ) : DrS k 0 f P := fun b s i _ => ⟨ρ, s, h s, p, i⟩
theorem DrS.seq {k c d : Nat} {f g : SemS} {ρ : En} {P Q : En → Prop} (h : DrS k c (f ρ) P) (h2 : ∀ ρ1, P ρ1 → DrS k d (g ρ1) Q) : DrS k (c + d) (sSeq f g ρ) Q := fun b s i l => by
  obtain ⟨ρ1, s1, e, p, i1⟩ := h b s i (by omega)
  obtain ⟨ρ2, s2, e2, p2, i2⟩ := h2 ρ1 p _ s1 i1 (by omega)
  exact ⟨ρ2, s2, sSeq_nx e e2, p2, i2.mono (by omega)⟩
theorem DrS.asg {k c : Nat} {fa : Sem1 D} {sg : SemG} {ρ : En} {P : D → Prop} {Q : En → Prop} (h : Dr k c (fa ρ) P) (h2 : ∀ d, P d → ∃ ρ1, sg d ρ = some ρ1 ∧ Q ρ1) : DrS k c (sAsg fa sg ρ) Q := fun b s i l => by
  obtain ⟨d, s1, e, p, i1⟩ := h b s i l
  obtain ⟨ρ1, e1, q⟩ := h2 d p
  exact ⟨ρ1, s1, sAsg_ok e e1, q, i1⟩
theorem DrS.more {k c d : Nat} {f : Dk → RS} {P : En → Prop} (h : DrS k c f P) (hd : c ≤ d) : DrS k d f P := fun b s i l => by
  obtain ⟨ρ, s1, e, p, i1⟩ := h b s i (by omega)
  exact ⟨ρ, s1, e, p, i1.mono (by omega)⟩
theorem DrS.imp {k c : Nat} {f : Dk → RS} {P Q : En → Prop} (h : DrS k c f P) (hq : ∀ ρ, P ρ → Q ρ) : DrS k c f Q := fun b s i l => by
  obtain ⟨ρ, s1, e, p, i1⟩ := h b s i l
  exact ⟨ρ, s1, e, hq ρ p, i1⟩
/-- a loop whose body keeps P -/
theorem DrS.forL {k c : Nat} {sg : SemG} {fb : SemS} {P : En → Prop} : ∀ {ds : List D} {ρ : En}, (∀ d ∈ ds, ∀ ρ, P ρ → ∃ ρ1, sg d ρ = some ρ1 ∧ DrS k c (fb ρ1) P) → P ρ → DrS k (ds.length * c) (forL sg fb ds ρ) P
  | [], ρ, _, p => fun b s i l => ⟨ρ, s, rfl, p, i.mono (by omega)⟩
  | d :: ds, ρ, h, p => fun b s i l => by
    have hl : (d :: ds).length * c = c + ds.length * c := by rw [List.length_cons, Nat.succ_mul, Nat.add_comm]
    rw [hl] at l ⊢
    obtain ⟨ρ1, h1, h2⟩ := h d List.mem_cons_self ρ p
    obtain ⟨ρ2, s1, e1, p1, i1⟩ := h2 b s i (by omega)
    obtain ⟨ρ3, s2, e2, p2, i2⟩ := DrS.forL (ds := ds) (ρ := ρ2) (fun e he => h e (List.mem_cons_of_mem _ he)) p1 _ s1 i1 (by omega)
    refine ⟨ρ3, s2, ?_, p2, i2.mono (by omega)⟩
    unfold Cw.forL
    simp only [h1, e1, e2]
theorem DrS.for {k c : Nat} {sg : SemG} {fb : SemS} {fi : Sem1 (List D)} {P : En → Prop} {ds : List D} {ρ : En} (hi : ∀ s, fi ρ s = .ok ds s) (h : ∀ d ∈ ds, ∀ ρ, P ρ → ∃ ρ1, sg d ρ = some ρ1 ∧ DrS k c (fb ρ1) P) (p : P ρ) : DrS k (ds.length * c) (sFor fi sg fb ρ) P := fun b s i l => by
  obtain ⟨ρ1, s1, e, q, i1⟩ := DrS.forL h p b s i l
  exact ⟨ρ1, s1, sFor_ok (hi s) e, q, i1⟩
/-- the law's end -/
theorem law_end {c : Nat} {f : SemS} {ρ : En} {P : En → Prop} {ns : List Int} (hl : ns.length ≤ 63) (h : DrS 3 c (f ρ) P) (hc : c ≤ LB) : ∃ s', sSeq f (sRet (fC (.bool true))) ρ (srcC ns, 0, 0) = .rt (.bool true) s' := by
  obtain ⟨ρ1, s1, e, _, _⟩ := h 0 _ (Iv.start hl) (by omega)
  exact ⟨s1, sSeq_nx e rfl⟩
/-- f gives back what P says -/
def DrR (k c : Nat) (f : Dk → RS) (P : D → Prop) : Prop := ∀ b s, Iv k b s → b + c ≤ LB → ∃ d s', f s = .rt d s' ∧ P d ∧ Iv k (b + c) s'
theorem DrR.seq {k c d : Nat} {f g : SemS} {ρ : En} {P : En → Prop} {Q : D → Prop} (h : DrS k c (f ρ) P) (h2 : ∀ ρ1, P ρ1 → DrR k d (g ρ1) Q) : DrR k (c + d) (sSeq f g ρ) Q := fun b s i l => by
  obtain ⟨ρ1, s1, e, p, i1⟩ := h b s i (by omega)
  obtain ⟨x, s2, e2, p2, i2⟩ := h2 ρ1 p _ s1 i1 (by omega)
  exact ⟨x, s2, sSeq_nx e e2, p2, i2.mono (by omega)⟩
theorem DrR.ret {k c : Nat} {fa : Sem1 D} {ρ : En} {Q : D → Prop} (h : Dr k c (fa ρ.frz) Q) : DrR k c (sRet fa ρ) Q := fun b s i l => by
  obtain ⟨x, s2, e2, p2, i2⟩ := h b s i l
  exact ⟨x, s2, sRet_ok e2, p2, i2⟩
theorem Dr.body {k c n m : Nat} {f : SemS} {svs : List SV} {Q : D → Prop} (hl : svs.length = n) (h : DrR k c (f (svs ++ List.replicate m .un)) Q) : Dr k c (mBody n m f svs) Q := fun b s i l => by
  obtain ⟨x, s2, e2, p2, i2⟩ := h b s i l
  exact ⟨x, s2, mBody_rt hl e2, p2, i2⟩
theorem Dr.call {k c : Nat} {m : List SV → Dk → Res D} {fs : Sem1 (List SV)} {ρ : En} {xs : List SV} {Q : D → Prop} (ha : ∀ s, fs ρ s = .ok xs s) (h : Dr k c (m xs) Q) : Dr k c (fCall m fs ρ) Q := fun b s i l => by
  obtain ⟨x, s2, e2, p2, i2⟩ := h b s i l
  exact ⟨x, s2, fCall_ok (ha s) e2, p2, i2⟩
theorem Dr.bin {k c : Nat} {fa fb : Sem1 D} {ρ : En} {g : D → D → Option D} {x : D} {P Q : D → Prop} (ha : ∀ s, fa ρ s = .ok x s) (h : Dr k c (fb ρ) P) (hg : ∀ y, P y → ∃ z, g x y = some z ∧ Q z) : Dr k c (fBin g fa fb ρ) Q := fun b s i l => by
  obtain ⟨y, s2, e2, p2, i2⟩ := h b s i l
  obtain ⟨z, e3, q⟩ := hg y p2
  exact ⟨z, s2, fBin_ok (ha s) e2 e3, q, i2⟩
theorem DrS.if {k c : Nat} {ft : Sem1 Bool} {f g : SemS} {ρ : En} {b : Bool} {Q : En → Prop} (ha : ∀ s, ft ρ s = .ok b s) (h : DrS k c ((if b = true then f else g) ρ) Q) : DrS k c (sIf ft f g ρ) Q := fun b' s i l => by
  obtain ⟨ρ1, s2, e2, p2, i2⟩ := h b' s i l
  refine ⟨ρ1, s2, sIf_ok (ha s) ?_, p2, i2⟩
  cases b with
  | true => rw [if_pos rfl] at e2 ⊢; exact e2
  | false => rw [if_neg (by decide)] at e2 ⊢; exact e2
theorem DrS.if0 {k : Nat} {ft : Sem1 Bool} {f : SemS} {ρ : En} {Q : En → Prop} (ha : ∀ s, ft ρ s = .ok false s) (q : Q ρ) : DrS k 0 (sIf ft f sNil ρ) Q := DrS.if ha (by rw [if_neg (by decide)]; exact DrS.pure (fun _ => rfl) q)
/-- values of a call's arguments, the machine behind: in turn -/
def DrA (k c : Nat) (f : Dk → Res (List SV)) (P : List SV → Prop) : Prop := Dr k c f P
theorem Dr.consA {k c d : Nat} {fa : Sem1 D} {fs : Sem1 (List SV)} {ρ : En} {P : D → Prop} {Q : List SV → Prop} (h : Dr k c (fa ρ) P) (h2 : Dr k d (fs ρ) Q) : Dr k (c + d) (fConsA fa fs ρ) fun xs => ∃ x r, xs = .va x :: r ∧ P x ∧ Q r := fun b s i l => by
  obtain ⟨x, s1, e1, p, i1⟩ := h b s i (by omega)
  obtain ⟨r, s2, e2, q, i2⟩ := h2 _ s1 i1 (by omega)
  exact ⟨_, s2, fConsA_ok e1 e2, ⟨x, r, rfl, p, q⟩, i2.mono (by omega)⟩
theorem Dr.nilA {k : Nat} {ρ : En} : Dr k 0 ((fNil : Sem1 (List SV)) ρ) fun xs => xs = [] := Dr.pure (fun _ => rfl) rfl
theorem DrS.par3 {k c i j l : Nat} {fs : Sem1 (List SV)} {ρ : En} {P : D → D → D → Prop} {Q : En → Prop} (h : Dr k c (fs ρ) fun xs => ∃ x y z, xs = [.va x, .va y, .va z] ∧ P x y z) (h2 : ∀ x y z, P x y z → Q (((ρ.set i (.va x)).set j (.va y)).set l (.va z))) : DrS k c (sPar3 i j l fs ρ) Q := fun b s iv le => by
  obtain ⟨xs, s1, e, ⟨x, y, z, rfl, p⟩, i1⟩ := h b s iv le
  exact ⟨_, s1, sPar3_ok e, h2 x y z p, i1⟩
theorem DrS.par {k c i j : Nat} {fs : Sem1 (List SV)} {ρ : En} {P : D → D → Prop} {Q : En → Prop} (h : Dr k c (fs ρ) fun xs => ∃ x y, xs = [.va x, .va y] ∧ P x y) (h2 : ∀ x y, P x y → Q ((ρ.set i (.va x)).set j (.va y))) : DrS k c (sPar i j fs ρ) Q := fun b s iv le => by
  obtain ⟨xs, s1, e, ⟨x, y, rfl, p⟩, i1⟩ := h b s iv le
  exact ⟨_, s1, sPar_ok e, h2 x y p, i1⟩
theorem Dr.if {k c d : Nat} {ft : Sem1 Bool} {fa fb : Sem1 D} {ρ : En} {Q : D → Prop} (h : Dr k c (ft ρ) fun _ => True) (h1 : Dr k d (fa ρ) Q) (h2 : Dr k d (fb ρ) Q) : Dr k (c + d) (fIf ft fa fb ρ) Q := fun b s i l => by
  obtain ⟨t, s1, e, _, i1⟩ := h b s i (by omega)
  cases t with
  | true =>
    obtain ⟨x, s2, e2, q, i2⟩ := h1 _ s1 i1 (by omega)
    exact ⟨x, s2, fIf_ok e (by rw [if_pos rfl]; exact e2), q, i2.mono (by omega)⟩
  | false =>
    obtain ⟨x, s2, e2, q, i2⟩ := h2 _ s1 i1 (by omega)
    exact ⟨x, s2, fIf_ok e (by rw [if_neg (by decide)]; exact e2), q, i2.mono (by omega)⟩
theorem Dr.test2 {k c : Nat} {fa fb : Sem1 D} {ρ : En} {g : D → D → Option D} {P : D → Prop} {y : D} (h : Dr k c (fa ρ) P) (hb : ∀ s, fb ρ s = .ok y s) (hg : ∀ x, P x → ∃ b : Bool, g x y = some (.bool b)) : Dr k c (fTest (fBin g fa fb) ρ) fun _ => True := fun b s i l => by
  obtain ⟨x, s1, e, p, i1⟩ := h b s i l
  obtain ⟨t, e2⟩ := hg x p
  exact ⟨t, s1, fTest_ok (fBin_ok e (hb s1) e2), trivial, i1⟩
theorem Dr.nil {k : Nat} {α : Type} {ρ : En} : Dr k 0 ((fNil : Sem1 (List α)) ρ) fun xs => xs = [] := Dr.pure (fun _ => rfl) rfl
end Cw

namespace Cw
open PySem PySem.Spec PyProof.Rows L2
def topS (i : Nat) : Stmt := PySem.Challenge.pw_costsworn_k12_stabilised_matrices.main.body.getD i (.Pass ⟨0, 0, 0, 0⟩)
section
variable {P : Program} {w : World} {K : Fg} {mg : Str → Option Value} {base : Heap}
abbrev s_is_int : Stmt := topS 6
theorem sc_is_int : FnScope ["thing"] ["thing"] (defScope s_is_int) := ⟨rfl, rfl, rfl, by decide +kernel, rfl, by decide +kernel, by decide +kernel⟩
abbrev sN_is_int : List Str := ["thing"]
abbrev sP_is_int : List Str := ["thing"]
def c_is_int : SemS := (sRet (fAndV (fIsi "int" (fVar 0)) (fNotV (fIsi "bool" (fVar 0)))))
def m_is_int : List SV → Dk → Res D := mBody 1 0 c_is_int
theorem bd_is_int {f : Addr} {fd : FuncData} (F : Fun K "is_int" "is_int" s_is_int f fd) : Binds K fd sP_is_int [] := F.binds (ps := sP_is_int) fun _ _ _ _ _ _ us hl => match us, hl with | [_], _ => rfl
theorem fn_is_int {f : Addr} {fd : FuncData} (F : Fun K "is_int" "is_int" s_is_int f fd) (at_ : mg "is_int" = some (.ref f)) (b_isinstance : mg "isinstance" = none) (b_bool : mg "bool" = none) (b_int : mg "int" = none) : FnR P w K mg base "is_int" s_is_int 1 ["thing"] m_is_int f fd :=
  have S := sc_is_int
  fnR_of (N := sN_is_int) (ps := sP_is_int) (n := 1) (n' := 0) (fb := c_is_int) F at_ S rfl rfl (bd_is_int F) fun cdv A outer s H E hr =>
    (eb_one (es_ret (ev_and (ev_isi (T := "int") (.inl rfl) (by rfl) b_isinstance (by rfl) b_int bt_int (ev_var (pv 0))) (ev_one (ev_not (ev_isi (T := "bool") (.inr (.inl rfl)) (by rfl) b_isinstance (by rfl) b_bool bt_bool (ev_var (pv 0))))))))
abbrev s_within : Stmt := topS 7
theorem sc_within : FnScope ["thing", "low", "high"] ["thing", "low", "high"] (defScope s_within) := ⟨rfl, rfl, rfl, by decide +kernel, rfl, by decide +kernel, by decide +kernel⟩
abbrev sN_within : List Str := ["thing", "low", "high"]
abbrev sP_within : List Str := ["thing", "low", "high"]
def c_within : SemS := (sRet (fAndV (fCall m_is_int (fConsA (fVar 0) fNil)) (fChain gLe gLe (fVar 1) (fVar 0) (fVar 2))))
def m_within : List SV → Dk → Res D := mBody 3 0 c_within
theorem bd_within {f : Addr} {fd : FuncData} (F : Fun K "within" "within" s_within f fd) : Binds K fd sP_within [] := F.binds (ps := sP_within) fun _ _ _ _ _ _ us hl => match us, hl with | [_, _, _], _ => rfl
theorem fn_within {f : Addr} {fd : FuncData} {f_is_int : Addr} {d_is_int : FuncData} (F : Fun K "within" "within" s_within f fd) (at_ : mg "within" = some (.ref f)) (F_is_int : FnR P w K mg base "is_int" s_is_int 1 ["thing"] m_is_int f_is_int d_is_int) : FnR P w K mg base "within" s_within 2 ["thing", "low", "high"] m_within f fd :=
  have S := sc_within
  fnR_of (N := sN_within) (ps := sP_within) (n := 3) (n' := 0) (fb := c_within) F at_ S rfl rfl (bd_within F) fun cdv A outer s H E hr =>
    (eb_one (es_ret (ev_and (ev_call F_is_int (hr.mono (by decide)) (by rfl) (takes_of rfl rfl rfl rfl) (ea_cons (ev_var (pv 0)) ea_nil)) (ev_one (ev_chain (od_le (hu64 hr)) (od_le (hu64 hr)) (ev_var (pv 1)) (ev_var (pv 0)) (ev_var (pv 2)))))))
abbrev s_is_row : Stmt := topS 8
theorem sc_is_row : FnScope ["thing", "fewest", "most"] ["thing", "fewest", "most"] (defScope s_is_row) := ⟨rfl, rfl, rfl, by decide +kernel, rfl, by decide +kernel, by decide +kernel⟩
abbrev sN_is_row : List Str := ["thing", "fewest", "most"]
abbrev sP_is_row : List Str := ["thing", "fewest", "most"]
def c_is_row : SemS := (sRet (fAndV (fIsi "tuple" (fVar 0)) (fChain gLe gLe (fVar 1) (fCB gLen (fCons (fVar 0) fNil)) (fVar 2))))
def m_is_row : List SV → Dk → Res D := mBody 3 0 c_is_row
theorem bd_is_row {f : Addr} {fd : FuncData} (F : Fun K "is_row" "is_row" s_is_row f fd) : Binds K fd sP_is_row [] := F.binds (ps := sP_is_row) fun _ _ _ _ _ _ us hl => match us, hl with | [_, _, _], _ => rfl
theorem fn_is_row {f : Addr} {fd : FuncData} (F : Fun K "is_row" "is_row" s_is_row f fd) (at_ : mg "is_row" = some (.ref f)) (b_len : mg "len" = none) (b_isinstance : mg "isinstance" = none) (b_tuple : mg "tuple" = none) : FnR P w K mg base "is_row" s_is_row 1 ["thing", "fewest", "most"] m_is_row f fd :=
  have S := sc_is_row
  fnR_of (N := sN_is_row) (ps := sP_is_row) (n := 3) (n' := 0) (fb := c_is_row) F at_ S rfl rfl (bd_is_row F) fun cdv A outer s H E hr =>
    (eb_one (es_ret (ev_and (ev_isi (T := "tuple") (.inr (.inr (.inr (.inl rfl)))) (by rfl) b_isinstance (by rfl) b_tuple bt_tuple (ev_var (pv 0))) (ev_one (ev_chain (od_le (hu64 hr)) (od_le (hu64 hr)) (ev_var (pv 1)) (ev_cb cd_len (by rfl) b_len bt_len (el_cons (ev_var (pv 0)) el_nil)) (ev_var (pv 2)))))))
abbrev s_are_within : Stmt := topS 9
theorem sc_are_within : FnScope ["thing", "low", "high", "entry"] ["thing", "low", "high"] (defScope s_are_within) := ⟨rfl, rfl, rfl, by decide +kernel, rfl, by decide +kernel, by decide +kernel⟩
abbrev sN_are_within : List Str := ["thing", "low", "high", "entry"]
abbrev sP_are_within : List Str := ["thing", "low", "high"]
def c_are_within : SemS := (sRet (fAndV (fIsi "tuple" (fVar 0)) (fCB gAll (fCons (fLst (fLc (fItems (fVar 0)) (gVar 3) fYes (fCall m_within (fConsA (fVar 3) (fConsA (fVar 1) (fConsA (fVar 2) fNil)))) [3])) fNil))))
def m_are_within : List SV → Dk → Res D := mBody 3 1 c_are_within
theorem bd_are_within {f : Addr} {fd : FuncData} (F : Fun K "are_within" "are_within" s_are_within f fd) : Binds K fd sP_are_within [] := F.binds (ps := sP_are_within) fun _ _ _ _ _ _ us hl => match us, hl with | [_, _, _], _ => rfl
theorem fn_are_within {f : Addr} {fd : FuncData} {f_within : Addr} {d_within : FuncData} (F : Fun K "are_within" "are_within" s_are_within f fd) (at_ : mg "are_within" = some (.ref f)) (b_all : mg "all" = none) (b_isinstance : mg "isinstance" = none) (b_tuple : mg "tuple" = none) (F_within : FnR P w K mg base "within" s_within 2 ["thing", "low", "high"] m_within f_within d_within) : FnR P w K mg base "are_within" s_are_within 3 ["thing", "low", "high"] m_are_within f fd :=
  have S := sc_are_within
  fnR_of (N := sN_are_within) (ps := sP_are_within) (n := 3) (n' := 1) (fb := c_are_within) F at_ S rfl rfl (bd_are_within F) fun cdv A outer s H E hr =>
    (eb_one (es_ret (ev_and (ev_isi (T := "tuple") (.inr (.inr (.inr (.inl rfl)))) (by rfl) b_isinstance (by rfl) b_tuple bt_tuple (ev_var (pv 0))) (ev_one (ev_cb (cd_all rfl) (by rfl) b_all bt_all (el_cons (ev_o (eo_lc (own := [("entry", 3)]) rfl S.nd (ei_items (ev_var (pv 0))) (blkOk_by rfl) (fun _ _ _ _ _ => (eg_var (pg_name (i := 3) S.nd rfl (by first | exact .inl rfl | exact .inr rfl)))) (fun _ _ _ _ _ => ec_nil) (fun _ _ _ _ _ => (ev_call F_within (hr.mono (by decide)) (by rfl) takes0 (ea_cons (ev_var (pv 3)) (ea_cons (ev_var (pv 1)) (ea_cons (ev_var (pv 2)) ea_nil))))))) el_nil))))))
abbrev s_is_matrix_of : Stmt := topS 13
theorem sc_is_matrix_of : FnScope ["states", "thing", "row"] ["states", "thing"] (defScope s_is_matrix_of) := ⟨rfl, rfl, rfl, by decide +kernel, rfl, by decide +kernel, by decide +kernel⟩
abbrev sN_is_matrix_of : List Str := ["states", "thing", "row"]
abbrev sP_is_matrix_of : List Str := ["states", "thing"]
def c_is_matrix_of : SemS := (sSeq (sIf (fNotT (fTest (fCall m_is_row (fConsA (fVar 1) (fConsA (fVar 0) (fConsA (fVar 0) fNil)))))) (sRet (fC (.bool false))) sNil)
  (sRet (fCB gAll (fCons (fLst (fLc (fItems (fVar 1)) (gVar 2) fYes (fAndV (fCall m_are_within (fConsA (fVar 2) (fConsA (fC (.int 0)) (fConsA (fC (.int 3)) fNil)))) (fBin gEq (fCB gLen (fCons (fVar 2) fNil)) (fVar 0))) [2])) fNil))))
def m_is_matrix_of : List SV → Dk → Res D := mBody 2 1 c_is_matrix_of
theorem bd_is_matrix_of {f : Addr} {fd : FuncData} (F : Fun K "is_matrix_of" "is_matrix_of" s_is_matrix_of f fd) : Binds K fd sP_is_matrix_of [] := F.binds (ps := sP_is_matrix_of) fun _ _ _ _ _ _ us hl => match us, hl with | [_, _], _ => rfl
theorem fn_is_matrix_of {f : Addr} {fd : FuncData} {f_are_within : Addr} {d_are_within : FuncData} {f_is_row : Addr} {d_is_row : FuncData} (F : Fun K "is_matrix_of" "is_matrix_of" s_is_matrix_of f fd) (at_ : mg "is_matrix_of" = some (.ref f)) (b_all : mg "all" = none) (b_len : mg "len" = none) (g_NONE : GI mg "NONE" 3) (F_are_within : FnR P w K mg base "are_within" s_are_within 3 ["thing", "low", "high"] m_are_within f_are_within d_are_within) (F_is_row : FnR P w K mg base "is_row" s_is_row 1 ["thing", "fewest", "most"] m_is_row f_is_row d_is_row) : FnR P w K mg base "is_matrix_of" s_is_matrix_of 4 ["states", "thing"] m_is_matrix_of f fd :=
  have S := sc_is_matrix_of
  fnR_of (N := sN_is_matrix_of) (ps := sP_is_matrix_of) (n := 2) (n' := 1) (fb := c_is_matrix_of) F at_ S rfl rfl (bd_is_matrix_of F) fun cdv A outer s H E hr =>
    (eb_cons (es_if (et_not (et_val (ev_call F_is_row (hr.mono (by decide)) (by rfl) (takes_of rfl rfl rfl rfl) (ea_cons (ev_var (pv 1)) (ea_cons (ev_var (pv 0)) (ea_cons (ev_var (pv 0)) ea_nil)))))) (eb_one (es_ret ev_bl)) eb_nil)
    (eb_one (es_ret (ev_cb (cd_all rfl) (by rfl) b_all bt_all (el_cons (ev_o (eo_lc (own := [("row", 2)]) rfl S.nd (ei_items (ev_var (pv 1))) (blkOk_by rfl) (fun _ _ _ _ _ => (eg_var (pg_name (i := 2) S.nd rfl (by first | exact .inl rfl | exact .inr rfl)))) (fun _ _ _ _ _ => ec_nil) (fun _ _ _ _ _ => (ev_and (ev_call F_are_within (hr.mono (by decide)) (by rfl) takes0 (ea_cons (ev_var (pv 2)) (ea_cons ev_int (ea_cons (ev_gi g_NONE (by rfl)) ea_nil)))) (ev_one (ev_cmp (od_eq (hu64 hr)) (ev_cb cd_len (by rfl) b_len bt_len (el_cons (ev_var (pv 2)) el_nil)) (ev_var (pv 0)) (nomark _))))))) el_nil)))))
abbrev s_need_matrix : Stmt := topS 14
theorem sc_need_matrix : FnScope ["matrix"] ["matrix"] (defScope s_need_matrix) := ⟨rfl, rfl, rfl, by decide +kernel, rfl, by decide +kernel, by decide +kernel⟩
abbrev sN_need_matrix : List Str := ["matrix"]
abbrev sP_need_matrix : List Str := ["matrix"]
def c_need_matrix : SemS := (sIf (fOrT (fNotT (fTest (fCall m_is_row (fConsA (fVar 0) (fConsA (fC (.int 1)) (fConsA (fC (.int 4)) fNil)))))) (fNotT (fTest (fCall m_is_matrix_of (fConsA (fCB gLen (fCons (fVar 0) fNil)) (fConsA (fVar 0) fNil)))))) (sRaise "BadMatrix") sNil)
def m_need_matrix : List SV → Dk → Res D := mBody 1 0 c_need_matrix
theorem bd_need_matrix {f : Addr} {fd : FuncData} (F : Fun K "need_matrix" "need_matrix" s_need_matrix f fd) : Binds K fd sP_need_matrix [] := F.binds (ps := sP_need_matrix) fun _ _ _ _ _ _ us hl => match us, hl with | [_], _ => rfl
theorem fn_need_matrix {f : Addr} {fd : FuncData} {f_is_matrix_of : Addr} {d_is_matrix_of : FuncData} {f_is_row : Addr} {d_is_row : FuncData} (F : Fun K "need_matrix" "need_matrix" s_need_matrix f fd) (at_ : mg "need_matrix" = some (.ref f)) (b_len : mg "len" = none) (g_MOST_STATES : GI mg "MOST_STATES" 4) (x_BadMatrix : ExC K mg "BadMatrix") (F_is_matrix_of : FnR P w K mg base "is_matrix_of" s_is_matrix_of 4 ["states", "thing"] m_is_matrix_of f_is_matrix_of d_is_matrix_of) (F_is_row : FnR P w K mg base "is_row" s_is_row 1 ["thing", "fewest", "most"] m_is_row f_is_row d_is_row) : FnR P w K mg base "need_matrix" s_need_matrix 5 ["matrix"] m_need_matrix f fd :=
  have S := sc_need_matrix
  fnR_of (N := sN_need_matrix) (ps := sP_need_matrix) (n := 1) (n' := 0) (fb := c_need_matrix) F at_ S rfl rfl (bd_need_matrix F) fun cdv A outer s H E hr =>
    (eb_one (es_if (et_w (ew_or (et_not (et_val (ev_call F_is_row (hr.mono (by decide)) (by rfl) (takes_of rfl rfl rfl rfl) (ea_cons (ev_var (pv 0)) (ea_cons ev_int (ea_cons (ev_gi g_MOST_STATES (by rfl)) ea_nil)))))) (ew_or1 (et_not (et_val (ev_call F_is_matrix_of (hr.mono (by decide)) (by rfl) (takes_of rfl rfl rfl rfl) (ea_cons (ev_cb cd_len (by rfl) b_len bt_len (el_cons (ev_var (pv 0)) el_nil)) (ea_cons (ev_var (pv 0)) ea_nil)))))))) (eb_one (es_rse rfl (takes_of rfl rfl rfl rfl) x_BadMatrix (by rfl))) eb_nil))
abbrev s_need_two : Stmt := topS 15
theorem sc_need_two : FnScope ["one", "other"] ["one", "other"] (defScope s_need_two) := ⟨rfl, rfl, rfl, by decide +kernel, rfl, by decide +kernel, by decide +kernel⟩
abbrev sN_need_two : List Str := ["one", "other"]
abbrev sP_need_two : List Str := ["one", "other"]
def c_need_two : SemS := (sSeq (sExpr (fCall m_need_matrix (fConsA (fVar 0) fNil)))
  (sIf (fNotT (fTest (fCall m_is_matrix_of (fConsA (fCB gLen (fCons (fVar 0) fNil)) (fConsA (fVar 1) fNil))))) (sRaise "BadOther") sNil))
def m_need_two : List SV → Dk → Res D := mBody 2 0 c_need_two
theorem bd_need_two {f : Addr} {fd : FuncData} (F : Fun K "need_two" "need_two" s_need_two f fd) : Binds K fd sP_need_two [] := F.binds (ps := sP_need_two) fun _ _ _ _ _ _ us hl => match us, hl with | [_, _], _ => rfl
theorem fn_need_two {f : Addr} {fd : FuncData} {f_is_matrix_of : Addr} {d_is_matrix_of : FuncData} {f_need_matrix : Addr} {d_need_matrix : FuncData} (F : Fun K "need_two" "need_two" s_need_two f fd) (at_ : mg "need_two" = some (.ref f)) (b_len : mg "len" = none) (x_BadOther : ExC K mg "BadOther") (F_is_matrix_of : FnR P w K mg base "is_matrix_of" s_is_matrix_of 4 ["states", "thing"] m_is_matrix_of f_is_matrix_of d_is_matrix_of) (F_need_matrix : FnR P w K mg base "need_matrix" s_need_matrix 5 ["matrix"] m_need_matrix f_need_matrix d_need_matrix) : FnR P w K mg base "need_two" s_need_two 6 ["one", "other"] m_need_two f fd :=
  have S := sc_need_two
  fnR_of (N := sN_need_two) (ps := sP_need_two) (n := 2) (n' := 0) (fb := c_need_two) F at_ S rfl rfl (bd_need_two F) fun cdv A outer s H E hr =>
    (eb_cons (es_expr (ev_call F_need_matrix (hr.mono (by decide)) (by rfl) (takes_of rfl rfl rfl rfl) (ea_cons (ev_var (pv 0)) ea_nil)))
    (eb_one (es_if (et_not (et_val (ev_call F_is_matrix_of (hr.mono (by decide)) (by rfl) (takes_of rfl rfl rfl rfl) (ea_cons (ev_cb cd_len (by rfl) b_len bt_len (el_cons (ev_var (pv 0)) el_nil)) (ea_cons (ev_var (pv 1)) ea_nil))))) (eb_one (es_rse rfl (takes_of rfl rfl rfl rfl) x_BadOther (by rfl))) eb_nil)))
abbrev s_columns_of : Stmt := topS 16
theorem sc_columns_of : FnScope ["matrix", "state", "row"] ["matrix"] (defScope s_columns_of) := ⟨rfl, rfl, rfl, by decide +kernel, rfl, by decide +kernel, by decide +kernel⟩
abbrev sN_columns_of : List Str := ["matrix", "state", "row"]
abbrev sP_columns_of : List Str := ["matrix"]
def c_columns_of : SemS := (sRet (fLst (fLc (fRange1 (fCons (fCB gLen (fCons (fVar 0) fNil)) fNil)) (gVar 1) fYes (fLst (fLc (fItems (fVar 0)) (gVar 2) fYes (fBin gIx (fVar 2) (fVar 1)) [2])) [1])))
def m_columns_of : List SV → Dk → Res D := mBody 1 2 c_columns_of
theorem bd_columns_of {f : Addr} {fd : FuncData} (F : Fun K "columns_of" "columns_of" s_columns_of f fd) : Binds K fd sP_columns_of [] := F.binds (ps := sP_columns_of) fun _ _ _ _ _ _ us hl => match us, hl with | [_], _ => rfl
theorem fn_columns_of {f : Addr} {fd : FuncData} (F : Fun K "columns_of" "columns_of" s_columns_of f fd) (at_ : mg "columns_of" = some (.ref f)) (b_range : mg "range" = none) (b_len : mg "len" = none) : FnR P w K mg base "columns_of" s_columns_of 1 ["matrix"] m_columns_of f fd :=
  have S := sc_columns_of
  fnR_of (N := sN_columns_of) (ps := sP_columns_of) (n := 1) (n' := 2) (fb := c_columns_of) F at_ S rfl rfl (bd_columns_of F) fun cdv A outer s H E hr =>
    (eb_one (es_ret (ev_o (eo_lc (own := [("state", 1)]) rfl S.nd (ei_range1 (by rfl) b_range (el_cons (ev_cb cd_len (by rfl) b_len bt_len (el_cons (ev_var (pv 0)) el_nil)) el_nil)) (blkOk_by rfl) (fun _ _ _ _ _ => (eg_var (pg_name (i := 1) S.nd rfl (by first | exact .inl rfl | exact .inr rfl)))) (fun _ _ _ _ _ => ec_nil) (fun _ _ _ _ _ => (ev_o (eo_lc (own := [("row", 2)]) rfl S.nd (ei_items (ev_var (pv 0))) (blkOk_by rfl) (fun _ _ _ _ _ => (eg_var (pg_name (i := 2) S.nd rfl (by first | exact .inl rfl | exact .inr rfl)))) (fun _ _ _ _ _ => ec_nil) (fun _ _ _ _ _ => (ev_ix xd_ix (ev_var (pv 2)) (ev_var (pv 1)) (fun _ _ => rfl))))))))))
abbrev s_product_entry : Stmt := topS 17
theorem sc_product_entry : FnScope ["row", "column", "left", "right"] ["row", "column"] (defScope s_product_entry) := ⟨rfl, rfl, rfl, by decide +kernel, rfl, by decide +kernel, by decide +kernel⟩
abbrev sN_product_entry : List Str := ["row", "column", "left", "right"]
abbrev sP_product_entry : List Str := ["row", "column"]
def c_product_entry : SemS := (sRet (fCB gMin (fCons (fLst (fLc (fZip (fCons (fVar 0) (fCons (fVar 1) fNil))) (gTupD 2 (gsCons (gVar 2) (gsCons (gVar 3) gsNil))) fYes (fCB gMax (fCons (fVar 2) (fCons (fVar 3) fNil))) [2, 3])) fNil)))
def m_product_entry : List SV → Dk → Res D := mBody 2 2 c_product_entry
theorem bd_product_entry {f : Addr} {fd : FuncData} (F : Fun K "product_entry" "product_entry" s_product_entry f fd) : Binds K fd sP_product_entry [] := F.binds (ps := sP_product_entry) fun _ _ _ _ _ _ us hl => match us, hl with | [_, _], _ => rfl
theorem fn_product_entry {f : Addr} {fd : FuncData} (F : Fun K "product_entry" "product_entry" s_product_entry f fd) (at_ : mg "product_entry" = some (.ref f)) (b_min : mg "min" = none) (b_zip : mg "zip" = none) (b_max : mg "max" = none) : FnR P w K mg base "product_entry" s_product_entry 1 ["row", "column"] m_product_entry f fd :=
  have S := sc_product_entry
  fnR_of (N := sN_product_entry) (ps := sP_product_entry) (n := 2) (n' := 2) (fb := c_product_entry) F at_ S rfl rfl (bd_product_entry F) fun cdv A outer s H E hr =>
    (eb_one (es_ret (ev_cb (cd_min rfl) (by rfl) b_min bt_min (el_cons (ev_o (eo_lc (own := [("left", 2), ("right", 3)]) rfl S.nd (ei_zip (by rfl) b_zip (el_cons (ev_var (pv 0)) (el_cons (ev_var (pv 1)) el_nil))) (blkOk_by rfl) (fun _ _ _ _ _ => (eg_tup rfl (egs_cons (eg_var (pg_name (i := 2) S.nd rfl (by first | exact .inl rfl | exact .inr rfl))) (egs_cons (eg_var (pg_name (i := 3) S.nd rfl (by first | exact .inl rfl | exact .inr rfl))) egs_nil)))) (fun _ _ _ _ _ => ec_nil) (fun _ _ _ _ _ => (ev_cb (cd_max rfl) (by rfl) b_max bt_max (el_cons (ev_var (pv 2)) (el_cons (ev_var (pv 3)) el_nil)))))) el_nil))))
abbrev s_product_in : Stmt := topS 18
theorem sc_product_in : FnScope ["one", "other", "columns", "row", "column"] ["one", "other"] (defScope s_product_in) := ⟨rfl, rfl, rfl, by decide +kernel, rfl, by decide +kernel, by decide +kernel⟩
abbrev sN_product_in : List Str := ["one", "other", "columns", "row", "column"]
abbrev sP_product_in : List Str := ["one", "other"]
def c_product_in : SemS := (sSeq (sAsg (fCall m_columns_of (fConsA (fVar 1) fNil)) (gVar 2))
  (sRet (fCB gTuple (fCons (fLst (fLc (fItems (fVar 0)) (gVar 3) fYes (fCB gTuple (fCons (fLst (fLc (fItems (fVar 2)) (gVar 4) fYes (fCall m_product_entry (fConsA (fVar 3) (fConsA (fVar 4) fNil))) [4])) fNil)) [3])) fNil))))
def m_product_in : List SV → Dk → Res D := mBody 2 3 c_product_in
theorem bd_product_in {f : Addr} {fd : FuncData} (F : Fun K "product_in" "product_in" s_product_in f fd) : Binds K fd sP_product_in [] := F.binds (ps := sP_product_in) fun _ _ _ _ _ _ us hl => match us, hl with | [_, _], _ => rfl
theorem fn_product_in {f : Addr} {fd : FuncData} {f_product_entry : Addr} {d_product_entry : FuncData} {f_columns_of : Addr} {d_columns_of : FuncData} (F : Fun K "product_in" "product_in" s_product_in f fd) (at_ : mg "product_in" = some (.ref f)) (b_tuple : mg "tuple" = none) (F_product_entry : FnR P w K mg base "product_entry" s_product_entry 1 ["row", "column"] m_product_entry f_product_entry d_product_entry) (F_columns_of : FnR P w K mg base "columns_of" s_columns_of 1 ["matrix"] m_columns_of f_columns_of d_columns_of) : FnR P w K mg base "product_in" s_product_in 2 ["one", "other"] m_product_in f fd :=
  have S := sc_product_in
  fnR_of (N := sN_product_in) (ps := sP_product_in) (n := 2) (n' := 3) (fb := c_product_in) F at_ S rfl rfl (bd_product_in F) fun cdv A outer s H E hr =>
    (eb_cons (es_set (i := 2) S.nd rfl (by first | exact .inl rfl | exact .inr rfl) (ev_call F_columns_of (hr.mono (by decide)) (by rfl) (takes_of rfl rfl rfl rfl) (ea_cons (ev_var (pv 1)) ea_nil)))
    (eb_one (es_ret (ev_ct cd_tuple (by rfl) b_tuple bt_tuple (el_cons (ev_o (eo_lc (own := [("row", 3)]) rfl S.nd (ei_items (ev_var (pv 0))) (blkOk_by rfl) (fun _ _ _ _ _ => (eg_var (pg_name (i := 3) S.nd rfl (by first | exact .inl rfl | exact .inr rfl)))) (fun _ _ _ _ _ => ec_nil) (fun _ _ _ _ _ => (ev_ct cd_tuple (by rfl) b_tuple bt_tuple (el_cons (ev_o (eo_lc (own := [("column", 4)]) rfl S.nd (ei_items (ev_var (pv 2))) (blkOk_by rfl) (fun _ _ _ _ _ => (eg_var (pg_name (i := 4) S.nd rfl (by first | exact .inl rfl | exact .inr rfl)))) (fun _ _ _ _ _ => ec_nil) (fun _ _ _ _ _ => (ev_call F_product_entry (hr.mono (by decide)) (by rfl) takes0 (ea_cons (ev_var (pv 3)) (ea_cons (ev_var (pv 4)) ea_nil)))))) el_nil))))) el_nil)))))
abbrev s_is_idempotent_in : Stmt := topS 19
theorem sc_is_idempotent_in : FnScope ["matrix"] ["matrix"] (defScope s_is_idempotent_in) := ⟨rfl, rfl, rfl, by decide +kernel, rfl, by decide +kernel, by decide +kernel⟩
abbrev sN_is_idempotent_in : List Str := ["matrix"]
abbrev sP_is_idempotent_in : List Str := ["matrix"]
def c_is_idempotent_in : SemS := (sRet (fBin gEq (fCall m_product_in (fConsA (fVar 0) (fConsA (fVar 0) fNil))) (fVar 0)))
def m_is_idempotent_in : List SV → Dk → Res D := mBody 1 0 c_is_idempotent_in
theorem bd_is_idempotent_in {f : Addr} {fd : FuncData} (F : Fun K "is_idempotent_in" "is_idempotent_in" s_is_idempotent_in f fd) : Binds K fd sP_is_idempotent_in [] := F.binds (ps := sP_is_idempotent_in) fun _ _ _ _ _ _ us hl => match us, hl with | [_], _ => rfl
theorem fn_is_idempotent_in {f : Addr} {fd : FuncData} {f_product_in : Addr} {d_product_in : FuncData} (F : Fun K "is_idempotent_in" "is_idempotent_in" s_is_idempotent_in f fd) (at_ : mg "is_idempotent_in" = some (.ref f)) (F_product_in : FnR P w K mg base "product_in" s_product_in 2 ["one", "other"] m_product_in f_product_in d_product_in) : FnR P w K mg base "is_idempotent_in" s_is_idempotent_in 3 ["matrix"] m_is_idempotent_in f fd :=
  have S := sc_is_idempotent_in
  fnR_of (N := sN_is_idempotent_in) (ps := sP_is_idempotent_in) (n := 1) (n' := 0) (fb := c_is_idempotent_in) F at_ S rfl rfl (bd_is_idempotent_in F) fun cdv A outer s H E hr =>
    (eb_one (es_ret (ev_cmp (od_eq (hu64 hr)) (ev_call F_product_in (hr.mono (by decide)) (by rfl) (takes_of rfl rfl rfl rfl) (ea_cons (ev_var (pv 0)) (ea_cons (ev_var (pv 0)) ea_nil))) (ev_var (pv 0)) (nomark _))))
abbrev s_staying_values : Stmt := topS 20
theorem sc_staying_values : FnScope ["matrix", "values", "state", "value"] ["matrix"] (defScope s_staying_values) := ⟨rfl, rfl, rfl, by decide +kernel, rfl, by decide +kernel, by decide +kernel⟩
abbrev sN_staying_values : List Str := ["matrix", "values", "state", "value"]
abbrev sP_staying_values : List Str := ["matrix"]
def c_staying_values : SemS := (sSeq (sAsg (fLst (fLc (fRange1 (fCons (fCB gLen (fCons (fVar 0) fNil)) fNil)) (gVar 2) fYes (fBin gIx (fBin gIx (fVar 0) (fVar 2)) (fVar 2)) [2])) (gVar 1))
  (sRet (fLst (fLc (fItems (fVar 1)) (gVar 3) fYes (fIf (fTest (fBin gIn (fVar 3) (fTup (fCons (fC (.int 0)) (fCons (fC (.int 3)) fNil))))) (fVar 3) (fC (.int 2))) [3]))))
def m_staying_values : List SV → Dk → Res D := mBody 1 3 c_staying_values
theorem bd_staying_values {f : Addr} {fd : FuncData} (F : Fun K "staying_values" "staying_values" s_staying_values f fd) : Binds K fd sP_staying_values [] := F.binds (ps := sP_staying_values) fun _ _ _ _ _ _ us hl => match us, hl with | [_], _ => rfl
theorem fn_staying_values {f : Addr} {fd : FuncData} (F : Fun K "staying_values" "staying_values" s_staying_values f fd) (at_ : mg "staying_values" = some (.ref f)) (b_range : mg "range" = none) (b_len : mg "len" = none) (g_NONE : GI mg "NONE" 3) : FnR P w K mg base "staying_values" s_staying_values 1 ["matrix"] m_staying_values f fd :=
  have S := sc_staying_values
  fnR_of (N := sN_staying_values) (ps := sP_staying_values) (n := 1) (n' := 3) (fb := c_staying_values) F at_ S rfl rfl (bd_staying_values F) fun cdv A outer s H E hr =>
    (eb_cons (es_setLc (i := 1) (own := [("state", 2)]) rfl S.nd rfl rfl rfl (ei_range1 (by rfl) b_range (el_cons (ev_cb cd_len (by rfl) b_len bt_len (el_cons (ev_var (pv 0)) el_nil)) el_nil)) (blkOk_by rfl) (fun _ _ _ _ _ => (eg_var (pg_name (i := 2) S.nd rfl (by first | exact .inl rfl | exact .inr rfl)))) (fun _ _ _ _ _ => ec_nil) (fun _ _ _ _ _ => (ev_ix xd_ix (ev_ix xd_ix (ev_var (pv 0)) (ev_var (pv 2)) (fun _ _ => rfl)) (ev_var (pv 2)) (fun _ _ => rfl))))
    (eb_one (es_ret (ev_o (eo_lc (own := [("value", 3)]) rfl S.nd (ei_items (ev_var (pv 1))) (blkOk_by rfl) (fun _ _ _ _ _ => (eg_var (pg_name (i := 3) S.nd rfl (by first | exact .inl rfl | exact .inr rfl)))) (fun _ _ _ _ _ => ec_nil) (fun _ _ _ _ _ => (ev_if (et_cmp (od_in (hu64 hr)) (ev_var (pv 3)) (ev_tup (el_cons ev_int (el_cons (ev_gi g_NONE (by rfl)) el_nil))) (by with_unfolding_all rfl)) (ev_var (pv 3)) ev_int)))))))
abbrev s_stabilised_in : Stmt := topS 21
theorem sc_stabilised_in : FnScope ["matrix", "staying", "columns", "found", "row", "begun", "entry", "value", "column"] ["matrix"] (defScope s_stabilised_in) := ⟨rfl, rfl, rfl, by decide +kernel, rfl, by decide +kernel, by decide +kernel⟩
abbrev sN_stabilised_in : List Str := ["matrix", "staying", "columns", "found", "row", "begun", "entry", "value", "column"]
abbrev sP_stabilised_in : List Str := ["matrix"]
def c_stabilised_in : SemS := (sSeq (sMv [1, 2, 3] (fMD (fCall m_staying_values (fConsA (fVar 0) fNil)) (fMD (fCall m_columns_of (fConsA (fVar 0) fNil)) (fMO (fLine fNil) fNil))))
  (sSeq (sFor (fItems (fVar 0)) (gVar 4) (sSeq (sAsg (fLst (fLc (fZip (fCons (fVar 4) (fCons (fVar 1) fNil))) (gTupD 2 (gsCons (gVar 6) (gsCons (gVar 7) gsNil))) fYes (fCB gMax (fCons (fVar 6) (fCons (fVar 7) fNil))) [6, 7])) (gVar 5))
  (sApp 3 (fCB gTuple (fCons (fLst (fLc (fItems (fVar 2)) (gVar 8) fYes (fCall m_product_entry (fConsA (fVar 5) (fConsA (fVar 8) fNil))) [8])) fNil)))))
  (sRet (fCB gTuple (fCons (fVar 3) fNil)))))
def m_stabilised_in : List SV → Dk → Res D := mBody 1 8 c_stabilised_in
theorem bd_stabilised_in {f : Addr} {fd : FuncData} (F : Fun K "stabilised_in" "stabilised_in" s_stabilised_in f fd) : Binds K fd sP_stabilised_in [] := F.binds (ps := sP_stabilised_in) fun _ _ _ _ _ _ us hl => match us, hl with | [_], _ => rfl
theorem fn_stabilised_in {f : Addr} {fd : FuncData} {f_product_entry : Addr} {d_product_entry : FuncData} {f_columns_of : Addr} {d_columns_of : FuncData} {f_staying_values : Addr} {d_staying_values : FuncData} (F : Fun K "stabilised_in" "stabilised_in" s_stabilised_in f fd) (at_ : mg "stabilised_in" = some (.ref f)) (b_tuple : mg "tuple" = none) (b_zip : mg "zip" = none) (b_max : mg "max" = none) (F_product_entry : FnR P w K mg base "product_entry" s_product_entry 1 ["row", "column"] m_product_entry f_product_entry d_product_entry) (F_columns_of : FnR P w K mg base "columns_of" s_columns_of 1 ["matrix"] m_columns_of f_columns_of d_columns_of) (F_staying_values : FnR P w K mg base "staying_values" s_staying_values 1 ["matrix"] m_staying_values f_staying_values d_staying_values) : FnR P w K mg base "stabilised_in" s_stabilised_in 2 ["matrix"] m_stabilised_in f fd :=
  have S := sc_stabilised_in
  fnR_of (N := sN_stabilised_in) (ps := sP_stabilised_in) (n := 1) (n' := 8) (fb := c_stabilised_in) F at_ S rfl rfl (bd_stabilised_in F) fun cdv A outer s H E hr =>
    (eb_cons (es_mv3 (i := 1) (j := 2) (l := 3) rfl S.nd rfl rfl rfl (by decide) (by decide) (by decide) rfl rfl rfl (em_d (ev_call F_staying_values (hr.mono (by decide)) (by rfl) (takes_of rfl rfl rfl rfl) (ea_cons (ev_var (pv 0)) ea_nil)) (em_d (ev_call F_columns_of (hr.mono (by decide)) (by rfl) (takes_of rfl rfl rfl rfl) (ea_cons (ev_var (pv 0)) ea_nil)) (em_o (eo_lst el_nil) em_nil))) rfl)
    (eb_cons (es_for (passes_of rfl) rfl (ei_items (ev_var (pv 0))) (eg_var (pg_name (i := 4) S.nd rfl (by first | exact .inl rfl | exact .inr rfl))) (eb_cons (es_set (i := 5) S.nd rfl (by first | exact .inl rfl | exact .inr rfl) (ev_o (eo_lc (own := [("entry", 6), ("value", 7)]) rfl S.nd (ei_zip (by rfl) b_zip (el_cons (ev_var (pv 4)) (el_cons (ev_var (pv 1)) el_nil))) (blkOk_by rfl) (fun _ _ _ _ _ => (eg_tup rfl (egs_cons (eg_var (pg_name (i := 6) S.nd rfl (by first | exact .inl rfl | exact .inr rfl))) (egs_cons (eg_var (pg_name (i := 7) S.nd rfl (by first | exact .inl rfl | exact .inr rfl))) egs_nil)))) (fun _ _ _ _ _ => ec_nil) (fun _ _ _ _ _ => (ev_cb (cd_max rfl) (by rfl) b_max bt_max (el_cons (ev_var (pv 6)) (el_cons (ev_var (pv 7)) el_nil)))))))
    (eb_one (es_app (pm_app (pv 3) (ev_ct cd_tuple (by rfl) b_tuple bt_tuple (el_cons (ev_o (eo_lc (own := [("column", 8)]) rfl S.nd (ei_items (ev_var (pv 2))) (blkOk_by rfl) (fun _ _ _ _ _ => (eg_var (pg_name (i := 8) S.nd rfl (by first | exact .inl rfl | exact .inr rfl)))) (fun _ _ _ _ _ => ec_nil) (fun _ _ _ _ _ => (ev_call F_product_entry (hr.mono (by decide)) (by rfl) takes0 (ea_cons (ev_var (pv 5)) (ea_cons (ev_var (pv 8)) ea_nil)))))) el_nil)))))))
    (eb_one (es_ret (ev_ct cd_tuple (by rfl) b_tuple bt_tuple (el_cons (ev_var (pv 3)) el_nil))))))
abbrev s_product : Stmt := topS 22
theorem sc_product : FnScope ["one", "other"] ["one", "other"] (defScope s_product) := ⟨rfl, rfl, rfl, by decide +kernel, rfl, by decide +kernel, by decide +kernel⟩
abbrev sN_product : List Str := ["one", "other"]
abbrev sP_product : List Str := ["one", "other"]
def c_product : SemS := (sSeq (sExpr (fCall m_need_two (fConsA (fVar 0) (fConsA (fVar 1) fNil))))
  (sRet (fCall m_product_in (fConsA (fVar 0) (fConsA (fVar 1) fNil)))))
def m_product : List SV → Dk → Res D := mBody 2 0 c_product
theorem bd_product {f : Addr} {fd : FuncData} (F : Fun K "product" "product" s_product f fd) : Binds K fd sP_product [] := F.binds (ps := sP_product) fun _ _ _ _ _ _ us hl => match us, hl with | [_, _], _ => rfl
theorem fn_product {f : Addr} {fd : FuncData} {f_product_in : Addr} {d_product_in : FuncData} {f_need_two : Addr} {d_need_two : FuncData} (F : Fun K "product" "product" s_product f fd) (at_ : mg "product" = some (.ref f)) (F_product_in : FnR P w K mg base "product_in" s_product_in 2 ["one", "other"] m_product_in f_product_in d_product_in) (F_need_two : FnR P w K mg base "need_two" s_need_two 6 ["one", "other"] m_need_two f_need_two d_need_two) : FnR P w K mg base "product" s_product 7 ["one", "other"] m_product f fd :=
  have S := sc_product
  fnR_of (N := sN_product) (ps := sP_product) (n := 2) (n' := 0) (fb := c_product) F at_ S rfl rfl (bd_product F) fun cdv A outer s H E hr =>
    (eb_cons (es_expr (ev_call F_need_two (hr.mono (by decide)) (by rfl) (takes_of rfl rfl rfl rfl) (ea_cons (ev_var (pv 0)) (ea_cons (ev_var (pv 1)) ea_nil))))
    (eb_one (es_ret (ev_call F_product_in (hr.mono (by decide)) (by rfl) (takes_of rfl rfl rfl rfl) (ea_cons (ev_var (pv 0)) (ea_cons (ev_var (pv 1)) ea_nil))))))
abbrev s_is_at_most : Stmt := topS 23
theorem sc_is_at_most : FnScope ["one", "other", "row", "more", "left", "right"] ["one", "other"] (defScope s_is_at_most) := ⟨rfl, rfl, rfl, by decide +kernel, rfl, by decide +kernel, by decide +kernel⟩
abbrev sN_is_at_most : List Str := ["one", "other", "row", "more", "left", "right"]
abbrev sP_is_at_most : List Str := ["one", "other"]
def c_is_at_most : SemS := (sSeq (sExpr (fCall m_need_two (fConsA (fVar 0) (fConsA (fVar 1) fNil))))
  (sRet (fCB gAll (fCons (fLst (fLc2 (fZip (fCons (fVar 0) (fCons (fVar 1) fNil))) (gTupD 2 (gsCons (gVar 2) (gsCons (gVar 3) gsNil))) fYes (fZip (fCons (fVar 2) (fCons (fVar 3) fNil))) (gTupD 2 (gsCons (gVar 4) (gsCons (gVar 5) gsNil))) fYes (fBin gLe (fVar 4) (fVar 5)) [2, 3, 4, 5] [4, 5])) fNil))))
def m_is_at_most : List SV → Dk → Res D := mBody 2 4 c_is_at_most
theorem bd_is_at_most {f : Addr} {fd : FuncData} (F : Fun K "is_at_most" "is_at_most" s_is_at_most f fd) : Binds K fd sP_is_at_most [] := F.binds (ps := sP_is_at_most) fun _ _ _ _ _ _ us hl => match us, hl with | [_, _], _ => rfl
theorem fn_is_at_most {f : Addr} {fd : FuncData} {f_need_two : Addr} {d_need_two : FuncData} (F : Fun K "is_at_most" "is_at_most" s_is_at_most f fd) (at_ : mg "is_at_most" = some (.ref f)) (b_all : mg "all" = none) (b_zip : mg "zip" = none) (F_need_two : FnR P w K mg base "need_two" s_need_two 6 ["one", "other"] m_need_two f_need_two d_need_two) : FnR P w K mg base "is_at_most" s_is_at_most 7 ["one", "other"] m_is_at_most f fd :=
  have S := sc_is_at_most
  fnR_of (N := sN_is_at_most) (ps := sP_is_at_most) (n := 2) (n' := 4) (fb := c_is_at_most) F at_ S rfl rfl (bd_is_at_most F) fun cdv A outer s H E hr =>
    (eb_cons (es_expr (ev_call F_need_two (hr.mono (by decide)) (by rfl) (takes_of rfl rfl rfl rfl) (ea_cons (ev_var (pv 0)) (ea_cons (ev_var (pv 1)) ea_nil))))
    (eb_one (es_ret (ev_cb (cd_all rfl) (by rfl) b_all bt_all (el_cons (ev_o (eo_lc2 (own := [("row", 2), ("more", 3), ("left", 4), ("right", 5)]) (vs1 := [4, 5]) rfl S.nd (ei_zip (by rfl) b_zip (el_cons (ev_var (pv 0)) (el_cons (ev_var (pv 1)) el_nil))) (blkOk_by rfl) (gok_tup (gsok_cons gok_var (gsok_cons gok_var gsok_nil))) (gok_tup (gsok_cons gok_var (gsok_cons gok_var gsok_nil))) (fun _ _ _ _ _ => (eg_tup rfl (egs_cons (eg_var (pg_name (i := 2) S.nd rfl (by first | exact .inl rfl | exact .inr rfl))) (egs_cons (eg_var (pg_name (i := 3) S.nd rfl (by first | exact .inl rfl | exact .inr rfl))) egs_nil)))) (fun _ _ _ _ _ => ec_nil) (fun _ _ _ _ _ => (ei_zip (by rfl) b_zip (el_cons (ev_var (pv 2)) (el_cons (ev_var (pv 3)) el_nil)))) (fun _ _ _ _ _ => (eg_tup rfl (egs_cons (eg_var (pg_name (i := 4) S.nd rfl (by first | exact .inl rfl | exact .inr rfl))) (egs_cons (eg_var (pg_name (i := 5) S.nd rfl (by first | exact .inl rfl | exact .inr rfl))) egs_nil)))) (fun _ _ _ _ _ => ec_nil) (fun _ _ _ _ _ => (ev_cmp (od_le (hu64 hr)) (ev_var (pv 4)) (ev_var (pv 5)) (nomark _))))) el_nil)))))
abbrev s_is_idempotent : Stmt := topS 24
theorem sc_is_idempotent : FnScope ["matrix"] ["matrix"] (defScope s_is_idempotent) := ⟨rfl, rfl, rfl, by decide +kernel, rfl, by decide +kernel, by decide +kernel⟩
abbrev sN_is_idempotent : List Str := ["matrix"]
abbrev sP_is_idempotent : List Str := ["matrix"]
def c_is_idempotent : SemS := (sSeq (sExpr (fCall m_need_matrix (fConsA (fVar 0) fNil)))
  (sRet (fCall m_is_idempotent_in (fConsA (fVar 0) fNil))))
def m_is_idempotent : List SV → Dk → Res D := mBody 1 0 c_is_idempotent
theorem bd_is_idempotent {f : Addr} {fd : FuncData} (F : Fun K "is_idempotent" "is_idempotent" s_is_idempotent f fd) : Binds K fd sP_is_idempotent [] := F.binds (ps := sP_is_idempotent) fun _ _ _ _ _ _ us hl => match us, hl with | [_], _ => rfl
theorem fn_is_idempotent {f : Addr} {fd : FuncData} {f_is_idempotent_in : Addr} {d_is_idempotent_in : FuncData} {f_need_matrix : Addr} {d_need_matrix : FuncData} (F : Fun K "is_idempotent" "is_idempotent" s_is_idempotent f fd) (at_ : mg "is_idempotent" = some (.ref f)) (F_is_idempotent_in : FnR P w K mg base "is_idempotent_in" s_is_idempotent_in 3 ["matrix"] m_is_idempotent_in f_is_idempotent_in d_is_idempotent_in) (F_need_matrix : FnR P w K mg base "need_matrix" s_need_matrix 5 ["matrix"] m_need_matrix f_need_matrix d_need_matrix) : FnR P w K mg base "is_idempotent" s_is_idempotent 6 ["matrix"] m_is_idempotent f fd :=
  have S := sc_is_idempotent
  fnR_of (N := sN_is_idempotent) (ps := sP_is_idempotent) (n := 1) (n' := 0) (fb := c_is_idempotent) F at_ S rfl rfl (bd_is_idempotent F) fun cdv A outer s H E hr =>
    (eb_cons (es_expr (ev_call F_need_matrix (hr.mono (by decide)) (by rfl) (takes_of rfl rfl rfl rfl) (ea_cons (ev_var (pv 0)) ea_nil)))
    (eb_one (es_ret (ev_call F_is_idempotent_in (hr.mono (by decide)) (by rfl) (takes_of rfl rfl rfl rfl) (ea_cons (ev_var (pv 0)) ea_nil)))))
abbrev s_stabilised : Stmt := topS 25
theorem sc_stabilised : FnScope ["matrix"] ["matrix"] (defScope s_stabilised) := ⟨rfl, rfl, rfl, by decide +kernel, rfl, by decide +kernel, by decide +kernel⟩
abbrev sN_stabilised : List Str := ["matrix"]
abbrev sP_stabilised : List Str := ["matrix"]
def c_stabilised : SemS := (sSeq (sExpr (fCall m_need_matrix (fConsA (fVar 0) fNil)))
  (sSeq (sIf (fNotT (fTest (fCall m_is_idempotent_in (fConsA (fVar 0) fNil)))) (sRaise "NotIdempotent") sNil)
  (sRet (fCall m_stabilised_in (fConsA (fVar 0) fNil)))))
def m_stabilised : List SV → Dk → Res D := mBody 1 0 c_stabilised
theorem bd_stabilised {f : Addr} {fd : FuncData} (F : Fun K "stabilised" "stabilised" s_stabilised f fd) : Binds K fd sP_stabilised [] := F.binds (ps := sP_stabilised) fun _ _ _ _ _ _ us hl => match us, hl with | [_], _ => rfl
theorem fn_stabilised {f : Addr} {fd : FuncData} {f_stabilised_in : Addr} {d_stabilised_in : FuncData} {f_is_idempotent_in : Addr} {d_is_idempotent_in : FuncData} {f_need_matrix : Addr} {d_need_matrix : FuncData} (F : Fun K "stabilised" "stabilised" s_stabilised f fd) (at_ : mg "stabilised" = some (.ref f)) (x_NotIdempotent : ExC K mg "NotIdempotent") (F_stabilised_in : FnR P w K mg base "stabilised_in" s_stabilised_in 2 ["matrix"] m_stabilised_in f_stabilised_in d_stabilised_in) (F_is_idempotent_in : FnR P w K mg base "is_idempotent_in" s_is_idempotent_in 3 ["matrix"] m_is_idempotent_in f_is_idempotent_in d_is_idempotent_in) (F_need_matrix : FnR P w K mg base "need_matrix" s_need_matrix 5 ["matrix"] m_need_matrix f_need_matrix d_need_matrix) : FnR P w K mg base "stabilised" s_stabilised 6 ["matrix"] m_stabilised f fd :=
  have S := sc_stabilised
  fnR_of (N := sN_stabilised) (ps := sP_stabilised) (n := 1) (n' := 0) (fb := c_stabilised) F at_ S rfl rfl (bd_stabilised F) fun cdv A outer s H E hr =>
    (eb_cons (es_expr (ev_call F_need_matrix (hr.mono (by decide)) (by rfl) (takes_of rfl rfl rfl rfl) (ea_cons (ev_var (pv 0)) ea_nil)))
    (eb_cons (es_if (et_not (et_val (ev_call F_is_idempotent_in (hr.mono (by decide)) (by rfl) (takes_of rfl rfl rfl rfl) (ea_cons (ev_var (pv 0)) ea_nil)))) (eb_one (es_rse rfl (takes_of rfl rfl rfl rfl) x_NotIdempotent (by rfl))) eb_nil)
    (eb_one (es_ret (ev_call F_stabilised_in (hr.mono (by decide)) (by rfl) (takes_of rfl rfl rfl rfl) (ea_cons (ev_var (pv 0)) ea_nil))))))
abbrev s__law_source : Stmt := topS 27
theorem sc__law_source : FnScope ["script", "cells", "cell"] ["script"] (defScope s__law_source) := ⟨rfl, rfl, rfl, by decide +kernel, rfl, by decide +kernel, by decide +kernel⟩
theorem fn__law_source {f : Addr} {fd : FuncData} (F : Fun K "_law_source" "_law_source" s__law_source f fd) (b_int : mg "int" = none) : FnOk P w K mg base (L2.CX P w) 1 f fd ["script"] (spSrcC K) :=
  have S := sc__law_source
  ok_srcC F S fun cdv A outer s H E hr =>
    pss_cons (es_setLcO (i := 1) (own := [("cell", 2)]) rfl S.nd rfl rfl rfl (ei_items (ev_o (eo_slsc (pv 0) ep_none (ep_some ev_int)))) (blkOk_by rfl) (fun _ _ _ _ _ => (eg_var (pg_name (i := 2) S.nd rfl (by first | exact .inl rfl | exact .inr rfl)))) (fun _ _ _ _ _ => ec_nil) (fun _ _ _ _ _ => (ev_bin od_mod (ev_ct cd_int (by rfl) b_int bt_int (el_cons (ev_var (pv 2)) el_nil)) (ev_bin od_pow ev_int ev_int))))
    (pss_cons (es_if (et_view (et_cmp (od_eq (hu64 hr)) (ev_var (pv 1)) (ev_o (eo_lst el_nil)) (nomark _))) (eb_one (es_own (i := 1) S.nd rfl (by first | exact .inl rfl | exact .inr rfl) (eo_lst (el_cons ev_int el_nil)))) eb_nil)
    (pss_one (ps_ret (pe_disp (pps_cons pe_str (pv 1) (pps_cons pe_str pe_int (pps_cons pe_str pe_int pps_nil))) rfl rfl (by decide) (by decide)))))
abbrev s__law_draw : Stmt := topS 28
theorem sc__law_draw : FnScope ["source", "many", "cells", "at", "cell", "turn", "mixed"] ["source", "many"] (defScope s__law_draw) := ⟨rfl, rfl, rfl, by decide +kernel, rfl, by decide +kernel, by decide +kernel⟩
theorem fn__law_draw {f : Addr} {fd : FuncData} (F : Fun K "_law_draw" "_law_draw" s__law_draw f fd) (at_ : mg "_law_draw" = some (.ref f)) (b_int : mg "int" = none) (b_len : mg "len" = none) : FnR P w K mg base "_law_draw" s__law_draw 1 ["source", "many"] mDrawC f fd :=
  have S := sc__law_draw
  fnR_drawC F at_ S (F.binds fun _ _ _ _ _ _ us hl => match us, hl with | [_, _], _ => rfl) fun cdv A outer s H E hr =>
    let L := fun (i : Nat) => i
    pss_cons (ps_set (i := 2) S.nd rfl (.inl rfl) (pe_dget (hu1 hr) (pv 0) pe_str (fun _ _ => rfl)))
    (pss_cons (ps_set (i := 3) S.nd rfl (.inl rfl) (pe_dget (hu1 hr) (pv 0) pe_str (fun _ _ => rfl)))
    (pss_cons (ps_set (i := 4) S.nd rfl (.inl rfl) (pe_ix ix_list (pv 2) (pv 3) (fun _ _ => rfl)))
    (pss_cons (ps_set (i := 5) S.nd rfl (.inl rfl) (pe_op op_add (pe_dget (hu1 hr) (pv 0) pe_str (fun _ _ => rfl)) pe_int))
    (pss_cons (ps_dput (hu1 hr) (pv 0) pe_str (pv 5) rfl)
    (pss_cons (ps_dput (hu1 hr) (pv 0) pe_str (pe_op op_mod (pe_callTy call_int1 (by rfl) b_int bt_int (pa_cons (pe_op op_add (pv 3) pe_int) pa_nil)) (pe_callB call_len_seq (by rfl) b_len bt_len (pa_cons (pv 2) pa_nil))) rfl)
    (pss_cons (ps_if (pt_cmpR op_ge (pv 4) (pe_op op_pow pe_int pe_int) (nomark _))
        (pss_cons (ps_asg (pe_op op_fdivW (pv 4) (pv 1)) (pg_sub (pv 2) (pv 3) set_list))
        (pss_one (ps_ret (pe_op op_mod (pe_callTy call_int1 (by rfl) b_int bt_int (pa_cons (pv 4) pa_nil)) (pv 1))))) pss_nil)
    (pss_cons (ps_set (i := 6) S.nd rfl (.inl rfl) (pe_op op_mod (pe_callTy call_int1 (by rfl) b_int bt_int (pa_cons (pe_op op_add (pe_op op_add (pe_op op_add (pe_op op_mul (pe_op op_add (pv 4) (pe_op op_mul pe_int (pv 5))) pe_int) (pe_op op_mul (pe_op op_mul (pv 5) (pv 5)) pe_int)) (pe_op op_mul (pv 3) pe_int)) pe_int) pa_nil)) pe_int))
    (pss_cons (ps_set (i := 6) S.nd rfl (.inl rfl) (pe_op op_mod (pe_callTy call_int1 (by rfl) b_int bt_int (pa_cons (pe_op op_add (pe_op op_add (pe_op op_mul (pv 6) (pv 6)) (pe_op op_mul pe_int (pv 5))) (pv 4)) pa_nil)) pe_int))
    (pss_one (ps_ret (pe_op op_mod (pe_callTy call_int1 (by rfl) b_int bt_int (pa_cons (pe_op op_fdivW (pe_op op_mul (pv 6) pe_int) pe_int) pa_nil)) (pv 1))))))))))))
abbrev s__law_times : Stmt := topS 29
theorem sc__law_times : FnScope ["one", "other", "places", "row", "q", "r"] ["one", "other"] (defScope s__law_times) := ⟨rfl, rfl, rfl, by decide +kernel, rfl, by decide +kernel, by decide +kernel⟩
abbrev sN__law_times : List Str := ["one", "other", "places", "row", "q", "r"]
abbrev sP__law_times : List Str := ["one", "other"]
def c__law_times : SemS := (sSeq (sAsg (fLst (fLRg1 (fCB gLen (fCons (fVar 0) fNil)))) (gVar 2))
  (sRet (fCB gTuple (fCons (fLst (fLc (fItems (fVar 0)) (gVar 3) fYes (fCB gTuple (fCons (fLst (fLc (fItems (fVar 2)) (gVar 4) fYes (fCB gMin (fCons (fLst (fLc (fItems (fVar 2)) (gVar 5) fYes (fCB gMax (fCons (fBin gIx (fVar 3) (fVar 5)) (fCons (fBin gIx (fBin gIx (fVar 1) (fVar 5)) (fVar 4)) fNil))) [5])) fNil)) [4])) fNil)) [3])) fNil))))
def m__law_times : List SV → Dk → Res D := mBody 2 4 c__law_times
theorem bd__law_times {f : Addr} {fd : FuncData} (F : Fun K "_law_times" "_law_times" s__law_times f fd) : Binds K fd sP__law_times [] := F.binds (ps := sP__law_times) fun _ _ _ _ _ _ us hl => match us, hl with | [_, _], _ => rfl
theorem fn__law_times {f : Addr} {fd : FuncData} (F : Fun K "_law_times" "_law_times" s__law_times f fd) (at_ : mg "_law_times" = some (.ref f)) (b_tuple : mg "tuple" = none) (b_min : mg "min" = none) (b_max : mg "max" = none) (b_list : mg "list" = none) (b_range : mg "range" = none) (b_len : mg "len" = none) : FnR P w K mg base "_law_times" s__law_times 1 ["one", "other"] m__law_times f fd :=
  have S := sc__law_times
  fnR_of (N := sN__law_times) (ps := sP__law_times) (n := 2) (n' := 4) (fb := c__law_times) F at_ S rfl rfl (bd__law_times F) fun cdv A outer s H E hr =>
    (eb_cons (es_set (i := 2) S.nd rfl (by first | exact .inl rfl | exact .inr rfl) (ev_o (eo_lrg1 rfl (by rfl) b_list (by rfl) b_range (ev_cb cd_len (by rfl) b_len bt_len (el_cons (ev_var (pv 0)) el_nil)))))
    (eb_one (es_ret (ev_ct cd_tuple (by rfl) b_tuple bt_tuple (el_cons (ev_o (eo_lc (own := [("row", 3)]) rfl S.nd (ei_items (ev_var (pv 0))) (blkOk_by rfl) (fun _ _ _ _ _ => (eg_var (pg_name (i := 3) S.nd rfl (by first | exact .inl rfl | exact .inr rfl)))) (fun _ _ _ _ _ => ec_nil) (fun _ _ _ _ _ => (ev_ct cd_tuple (by rfl) b_tuple bt_tuple (el_cons (ev_o (eo_lc (own := [("q", 4)]) rfl S.nd (ei_items (ev_var (pv 2))) (blkOk_by rfl) (fun _ _ _ _ _ => (eg_var (pg_name (i := 4) S.nd rfl (by first | exact .inl rfl | exact .inr rfl)))) (fun _ _ _ _ _ => ec_nil) (fun _ _ _ _ _ => (ev_cb (cd_min rfl) (by rfl) b_min bt_min (el_cons (ev_o (eo_lc (own := [("r", 5)]) rfl S.nd (ei_items (ev_var (pv 2))) (blkOk_by rfl) (fun _ _ _ _ _ => (eg_var (pg_name (i := 5) S.nd rfl (by first | exact .inl rfl | exact .inr rfl)))) (fun _ _ _ _ _ => ec_nil) (fun _ _ _ _ _ => (ev_cb (cd_max rfl) (by rfl) b_max bt_max (el_cons (ev_ix xd_ix (ev_var (pv 3)) (ev_var (pv 5)) (fun _ _ => rfl)) (el_cons (ev_ix xd_ix (ev_ix xd_ix (ev_var (pv 1)) (ev_var (pv 5)) (fun _ _ => rfl)) (ev_var (pv 4)) (fun _ _ => rfl)) el_nil)))))) el_nil))))) el_nil))))) el_nil)))))
abbrev s__law_is_idempotent : Stmt := topS 30
theorem sc__law_is_idempotent : FnScope ["matrix"] ["matrix"] (defScope s__law_is_idempotent) := ⟨rfl, rfl, rfl, by decide +kernel, rfl, by decide +kernel, by decide +kernel⟩
abbrev sN__law_is_idempotent : List Str := ["matrix"]
abbrev sP__law_is_idempotent : List Str := ["matrix"]
def c__law_is_idempotent : SemS := (sRet (fBin gEq (fCall m__law_times (fConsA (fVar 0) (fConsA (fVar 0) fNil))) (fVar 0)))
def m__law_is_idempotent : List SV → Dk → Res D := mBody 1 0 c__law_is_idempotent
theorem bd__law_is_idempotent {f : Addr} {fd : FuncData} (F : Fun K "_law_is_idempotent" "_law_is_idempotent" s__law_is_idempotent f fd) : Binds K fd sP__law_is_idempotent [] := F.binds (ps := sP__law_is_idempotent) fun _ _ _ _ _ _ us hl => match us, hl with | [_], _ => rfl
theorem fn__law_is_idempotent {f : Addr} {fd : FuncData} {f__law_times : Addr} {d__law_times : FuncData} (F : Fun K "_law_is_idempotent" "_law_is_idempotent" s__law_is_idempotent f fd) (at_ : mg "_law_is_idempotent" = some (.ref f)) (F__law_times : FnR P w K mg base "_law_times" s__law_times 1 ["one", "other"] m__law_times f__law_times d__law_times) : FnR P w K mg base "_law_is_idempotent" s__law_is_idempotent 2 ["matrix"] m__law_is_idempotent f fd :=
  have S := sc__law_is_idempotent
  fnR_of (N := sN__law_is_idempotent) (ps := sP__law_is_idempotent) (n := 1) (n' := 0) (fb := c__law_is_idempotent) F at_ S rfl rfl (bd__law_is_idempotent F) fun cdv A outer s H E hr =>
    (eb_one (es_ret (ev_cmp (od_eq (hu64 hr)) (ev_call F__law_times (hr.mono (by decide)) (by rfl) (takes_of rfl rfl rfl rfl) (ea_cons (ev_var (pv 0)) (ea_cons (ev_var (pv 0)) ea_nil))) (ev_var (pv 0)) (nomark _))))
abbrev s__law_stable : Stmt := topS 31
theorem sc__law_stable : FnScope ["matrix", "places", "free", "r", "row", "q"] ["matrix"] (defScope s__law_stable) := ⟨rfl, rfl, rfl, by decide +kernel, rfl, by decide +kernel, by decide +kernel⟩
abbrev sN__law_stable : List Str := ["matrix", "places", "free", "r", "row", "q"]
abbrev sP__law_stable : List Str := ["matrix"]
def c__law_stable : SemS := (sSeq (sAsg (fLst (fLRg1 (fCB gLen (fCons (fVar 0) fNil)))) (gVar 1))
  (sSeq (sAsg (fLst (fLc (fItems (fVar 1)) (gVar 3) fYes (fBin gIx (fLst (fLine (fCons (fC (.int 0)) (fCons (fC (.int 2)) (fCons (fC (.int 2)) (fCons (fC (.int 3)) fNil)))))) (fBin gIx (fBin gIx (fVar 0) (fVar 3)) (fVar 3))) [3])) (gVar 2))
  (sRet (fCB gTuple (fCons (fLst (fLc (fItems (fVar 0)) (gVar 4) fYes (fCB gTuple (fCons (fLst (fLc (fItems (fVar 1)) (gVar 5) fYes (fCB gMin (fCons (fLst (fLc (fItems (fVar 1)) (gVar 3) fYes (fCB gMax3 (fCons (fBin gIx (fVar 4) (fVar 3)) (fCons (fBin gIx (fVar 2) (fVar 3)) (fCons (fBin gIx (fBin gIx (fVar 0) (fVar 3)) (fVar 5)) fNil)))) [3])) fNil)) [5])) fNil)) [4])) fNil)))))
def m__law_stable : List SV → Dk → Res D := mBody 1 5 c__law_stable
theorem bd__law_stable {f : Addr} {fd : FuncData} (F : Fun K "_law_stable" "_law_stable" s__law_stable f fd) : Binds K fd sP__law_stable [] := F.binds (ps := sP__law_stable) fun _ _ _ _ _ _ us hl => match us, hl with | [_], _ => rfl
theorem fn__law_stable {f : Addr} {fd : FuncData} (F : Fun K "_law_stable" "_law_stable" s__law_stable f fd) (at_ : mg "_law_stable" = some (.ref f)) (b_tuple : mg "tuple" = none) (b_min : mg "min" = none) (b_max : mg "max" = none) (b_list : mg "list" = none) (b_range : mg "range" = none) (b_len : mg "len" = none) : FnR P w K mg base "_law_stable" s__law_stable 1 ["matrix"] m__law_stable f fd :=
  have S := sc__law_stable
  fnR_of (N := sN__law_stable) (ps := sP__law_stable) (n := 1) (n' := 5) (fb := c__law_stable) F at_ S rfl rfl (bd__law_stable F) fun cdv A outer s H E hr =>
    (eb_cons (es_set (i := 1) S.nd rfl (by first | exact .inl rfl | exact .inr rfl) (ev_o (eo_lrg1 rfl (by rfl) b_list (by rfl) b_range (ev_cb cd_len (by rfl) b_len bt_len (el_cons (ev_var (pv 0)) el_nil)))))
    (eb_cons (es_set (i := 2) S.nd rfl (by first | exact .inl rfl | exact .inr rfl) (ev_o (eo_lc (own := [("r", 3)]) rfl S.nd (ei_items (ev_var (pv 1))) (blkOk_by rfl) (fun _ _ _ _ _ => (eg_var (pg_name (i := 3) S.nd rfl (by first | exact .inl rfl | exact .inr rfl)))) (fun _ _ _ _ _ => ec_nil) (fun _ _ _ _ _ => (ev_ix xd_ix (ev_o (eo_lst (el_cons ev_int (el_cons ev_int (el_cons ev_int (el_cons ev_int el_nil)))))) (ev_ix xd_ix (ev_ix xd_ix (ev_var (pv 0)) (ev_var (pv 3)) (fun _ _ => rfl)) (ev_var (pv 3)) (fun _ _ => rfl)) (fun _ _ => rfl))))))
    (eb_one (es_ret (ev_ct cd_tuple (by rfl) b_tuple bt_tuple (el_cons (ev_o (eo_lc (own := [("row", 4)]) rfl S.nd (ei_items (ev_var (pv 0))) (blkOk_by rfl) (fun _ _ _ _ _ => (eg_var (pg_name (i := 4) S.nd rfl (by first | exact .inl rfl | exact .inr rfl)))) (fun _ _ _ _ _ => ec_nil) (fun _ _ _ _ _ => (ev_ct cd_tuple (by rfl) b_tuple bt_tuple (el_cons (ev_o (eo_lc (own := [("q", 5)]) rfl S.nd (ei_items (ev_var (pv 1))) (blkOk_by rfl) (fun _ _ _ _ _ => (eg_var (pg_name (i := 5) S.nd rfl (by first | exact .inl rfl | exact .inr rfl)))) (fun _ _ _ _ _ => ec_nil) (fun _ _ _ _ _ => (ev_cb (cd_min rfl) (by rfl) b_min bt_min (el_cons (ev_o (eo_lc (own := [("r", 3)]) rfl S.nd (ei_items (ev_var (pv 1))) (blkOk_by rfl) (fun _ _ _ _ _ => (eg_var (pg_name (i := 3) S.nd rfl (by first | exact .inl rfl | exact .inr rfl)))) (fun _ _ _ _ _ => ec_nil) (fun _ _ _ _ _ => (ev_cb (cd_max3 rfl) (by rfl) b_max bt_max (el_cons (ev_ix xd_ix (ev_var (pv 4)) (ev_var (pv 3)) (fun _ _ => rfl)) (el_cons (ev_ix xd_ix (ev_var (pv 2)) (ev_var (pv 3)) (fun _ _ => rfl)) (el_cons (ev_ix xd_ix (ev_ix xd_ix (ev_var (pv 0)) (ev_var (pv 3)) (fun _ _ => rfl)) (ev_var (pv 5)) (fun _ _ => rfl)) el_nil))))))) el_nil))))) el_nil))))) el_nil))))))
abbrev s__law_power : Stmt := topS 32
theorem sc__law_power : FnScope ["matrix", "power", "k"] ["matrix"] (defScope s__law_power) := ⟨rfl, rfl, rfl, by decide +kernel, rfl, by decide +kernel, by decide +kernel⟩
abbrev sN__law_power : List Str := ["matrix", "power", "k"]
abbrev sP__law_power : List Str := ["matrix"]
def c__law_power : SemS := (sSeq (sAsg (fVar 0) (gVar 1))
  (sSeq (sFor (fRange2 (fCons (fC (.int 1)) (fCons (fC (.int 300)) fNil))) (gVar 2) (sSeq (sIf (fTest (fCall m__law_is_idempotent (fConsA (fVar 1) fNil))) (sRet (fTup (fCons (fVar 2) (fCons (fVar 1) fNil)))) sNil)
  (sAsg (fCall m__law_times (fConsA (fVar 1) (fConsA (fVar 0) fNil))) (gVar 1))))
  (sRet (fC .none))))
def m__law_power : List SV → Dk → Res D := mBody 1 2 c__law_power
theorem bd__law_power {f : Addr} {fd : FuncData} (F : Fun K "_law_power" "_law_power" s__law_power f fd) : Binds K fd sP__law_power [] := F.binds (ps := sP__law_power) fun _ _ _ _ _ _ us hl => match us, hl with | [_], _ => rfl
theorem fn__law_power {f : Addr} {fd : FuncData} {f__law_times : Addr} {d__law_times : FuncData} {f__law_is_idempotent : Addr} {d__law_is_idempotent : FuncData} (F : Fun K "_law_power" "_law_power" s__law_power f fd) (at_ : mg "_law_power" = some (.ref f)) (b_range : mg "range" = none) (F__law_times : FnR P w K mg base "_law_times" s__law_times 1 ["one", "other"] m__law_times f__law_times d__law_times) (F__law_is_idempotent : FnR P w K mg base "_law_is_idempotent" s__law_is_idempotent 2 ["matrix"] m__law_is_idempotent f__law_is_idempotent d__law_is_idempotent) : FnR P w K mg base "_law_power" s__law_power 3 ["matrix"] m__law_power f fd :=
  have S := sc__law_power
  fnR_of (N := sN__law_power) (ps := sP__law_power) (n := 1) (n' := 2) (fb := c__law_power) F at_ S rfl rfl (bd__law_power F) fun cdv A outer s H E hr =>
    (eb_cons (es_set (i := 1) S.nd rfl (by first | exact .inl rfl | exact .inr rfl) (ev_var (pv 0)))
    (eb_cons (es_for (passes_of rfl) rfl (ei_range2 (by rfl) b_range (el_cons ev_int (el_cons ev_int el_nil))) (eg_var (pg_name (i := 2) S.nd rfl (by first | exact .inl rfl | exact .inr rfl))) (eb_cons (es_if (et_val (ev_call F__law_is_idempotent (hr.mono (by decide)) (by rfl) (takes_of rfl rfl rfl rfl) (ea_cons (ev_var (pv 1)) ea_nil))) (eb_one (es_ret (ev_tup (el_cons (ev_var (pv 2)) (el_cons (ev_var (pv 1)) el_nil))))) eb_nil)
    (eb_one (es_set (i := 1) S.nd rfl (by first | exact .inl rfl | exact .inr rfl) (ev_call F__law_times (hr.mono (by decide)) (by rfl) (takes_of rfl rfl rfl rfl) (ea_cons (ev_var (pv 1)) (ea_cons (ev_var (pv 0)) ea_nil)))))))
    (eb_one (es_ret ev_non))))
abbrev s__law_matrix : Stmt := topS 33
theorem sc__law_matrix : FnScope ["source", "n", "kind", "values", "p", "q"] ["source", "n"] (defScope s__law_matrix) := ⟨rfl, rfl, rfl, by decide +kernel, rfl, by decide +kernel, by decide +kernel⟩
abbrev sN__law_matrix : List Str := ["source", "n", "kind", "values", "p", "q"]
abbrev sP__law_matrix : List Str := ["source", "n"]
def c__law_matrix : SemS := (sSeq (sAsg (fCall mDrawC (fConsV 0 (fConsA (fC (.int 3)) fNil))) (gVar 2))
  (sSeq (sAsg (fBin gIx (fLst (fLine (fCons (fLst (fLine (fCons (fC (.int 0)) (fCons (fC (.int 1)) (fCons (fC (.int 2)) (fCons (fC (.int 3)) fNil)))))) (fCons (fLst (fLine (fCons (fC (.int 0)) (fCons (fC (.int 1)) (fCons (fC (.int 3)) (fCons (fC (.int 3)) (fCons (fC (.int 3)) fNil))))))) (fCons (fLst (fLine (fCons (fC (.int 0)) (fCons (fC (.int 1)) (fCons (fC (.int 1)) (fCons (fC (.int 2)) (fCons (fC (.int 3)) (fCons (fC (.int 3)) fNil)))))))) fNil))))) (fVar 2)) (gVar 3))
  (sRet (fCB gTuple (fCons (fLst (fLc (fRange1 (fCons (fVar 1) fNil)) (gVar 4) fYes (fCB gTuple (fCons (fLst (fLc (fRange1 (fCons (fVar 1) fNil)) (gVar 5) fYes (fBin gIx (fVar 3) (fCall mDrawC (fConsV 0 (fConsA (fCB gLen (fCons (fVar 3) fNil)) fNil)))) [5])) fNil)) [4])) fNil)))))
def m__law_matrix : List SV → Dk → Res D := mBody 2 4 c__law_matrix
theorem bd__law_matrix {f : Addr} {fd : FuncData} (F : Fun K "_law_matrix" "_law_matrix" s__law_matrix f fd) : Binds K fd sP__law_matrix [] := F.binds (ps := sP__law_matrix) fun _ _ _ _ _ _ us hl => match us, hl with | [_, _], _ => rfl
theorem fn__law_matrix {f : Addr} {fd : FuncData} {f__law_draw : Addr} {d__law_draw : FuncData} (F : Fun K "_law_matrix" "_law_matrix" s__law_matrix f fd) (at_ : mg "_law_matrix" = some (.ref f)) (b_tuple : mg "tuple" = none) (b_range : mg "range" = none) (b_len : mg "len" = none) (F__law_draw : FnR P w K mg base "_law_draw" s__law_draw 1 ["source", "many"] mDrawC f__law_draw d__law_draw) : FnR P w K mg base "_law_matrix" s__law_matrix 2 ["source", "n"] m__law_matrix f fd :=
  have S := sc__law_matrix
  fnR_of (N := sN__law_matrix) (ps := sP__law_matrix) (n := 2) (n' := 4) (fb := c__law_matrix) F at_ S rfl rfl (bd__law_matrix F) fun cdv A outer s H E hr =>
    (eb_cons (es_set (i := 2) S.nd rfl (by first | exact .inl rfl | exact .inr rfl) (ev_call F__law_draw (hr.mono (by decide)) (by rfl) (takes_of rfl rfl rfl rfl) (ea_var (pv 0) (ea_cons ev_int ea_nil))))
    (eb_cons (es_set (i := 3) S.nd rfl (by first | exact .inl rfl | exact .inr rfl) (ev_ix xd_ix (ev_o (eo_lst (el_cons (ev_o (eo_lst (el_cons ev_int (el_cons ev_int (el_cons ev_int (el_cons ev_int el_nil)))))) (el_cons (ev_o (eo_lst (el_cons ev_int (el_cons ev_int (el_cons ev_int (el_cons ev_int (el_cons ev_int el_nil))))))) (el_cons (ev_o (eo_lst (el_cons ev_int (el_cons ev_int (el_cons ev_int (el_cons ev_int (el_cons ev_int (el_cons ev_int el_nil)))))))) el_nil))))) (ev_var (pv 2)) (fun _ _ => rfl)))
    (eb_one (es_ret (ev_ct cd_tuple (by rfl) b_tuple bt_tuple (el_cons (ev_o (eo_lc (own := [("p", 4)]) rfl S.nd (ei_range1 (by rfl) b_range (el_cons (ev_var (pv 1)) el_nil)) (blkOk_by rfl) (fun _ _ _ _ _ => (eg_var (pg_name (i := 4) S.nd rfl (by first | exact .inl rfl | exact .inr rfl)))) (fun _ _ _ _ _ => ec_nil) (fun _ _ _ _ _ => (ev_ct cd_tuple (by rfl) b_tuple bt_tuple (el_cons (ev_o (eo_lc (own := [("q", 5)]) rfl S.nd (ei_range1 (by rfl) b_range (el_cons (ev_var (pv 1)) el_nil)) (blkOk_by rfl) (fun _ _ _ _ _ => (eg_var (pg_name (i := 5) S.nd rfl (by first | exact .inl rfl | exact .inr rfl)))) (fun _ _ _ _ _ => ec_nil) (fun _ _ _ _ _ => (ev_ix xd_ix (ev_var (pv 3)) (ev_call F__law_draw (hr.mono (by decide)) (by rfl) takes0 (ea_var (pv 0) (ea_cons (ev_cb cd_len (by rfl) b_len bt_len (el_cons (ev_var (pv 3)) el_nil)) ea_nil))) (fun _ _ => rfl))))) el_nil))))) el_nil))))))
abbrev s__law_idempotent : Stmt := topS 34
theorem sc__law_idempotent : FnScope ["source", "n"] ["source", "n"] (defScope s__law_idempotent) := ⟨rfl, rfl, rfl, by decide +kernel, rfl, by decide +kernel, by decide +kernel⟩
abbrev sN__law_idempotent : List Str := ["source", "n"]
abbrev sP__law_idempotent : List Str := ["source", "n"]
def c__law_idempotent : SemS := (sRet (fBin gIx (fCall m__law_power (fConsA (fCall m__law_matrix (fConsV 0 (fConsA (fVar 1) fNil))) fNil)) (fC (.int 1))))
def m__law_idempotent : List SV → Dk → Res D := mBody 2 0 c__law_idempotent
theorem bd__law_idempotent {f : Addr} {fd : FuncData} (F : Fun K "_law_idempotent" "_law_idempotent" s__law_idempotent f fd) : Binds K fd sP__law_idempotent [] := F.binds (ps := sP__law_idempotent) fun _ _ _ _ _ _ us hl => match us, hl with | [_, _], _ => rfl
theorem fn__law_idempotent {f : Addr} {fd : FuncData} {f__law_power : Addr} {d__law_power : FuncData} {f__law_matrix : Addr} {d__law_matrix : FuncData} (F : Fun K "_law_idempotent" "_law_idempotent" s__law_idempotent f fd) (at_ : mg "_law_idempotent" = some (.ref f)) (F__law_power : FnR P w K mg base "_law_power" s__law_power 3 ["matrix"] m__law_power f__law_power d__law_power) (F__law_matrix : FnR P w K mg base "_law_matrix" s__law_matrix 2 ["source", "n"] m__law_matrix f__law_matrix d__law_matrix) : FnR P w K mg base "_law_idempotent" s__law_idempotent 4 ["source", "n"] m__law_idempotent f fd :=
  have S := sc__law_idempotent
  fnR_of (N := sN__law_idempotent) (ps := sP__law_idempotent) (n := 2) (n' := 0) (fb := c__law_idempotent) F at_ S rfl rfl (bd__law_idempotent F) fun cdv A outer s H E hr =>
    (eb_one (es_ret (ev_ix xd_ix (ev_call F__law_power (hr.mono (by decide)) (by rfl) (takes_of rfl rfl rfl rfl) (ea_cons (ev_call F__law_matrix (hr.mono (by decide)) (by rfl) (takes_of rfl rfl rfl rfl) (ea_var (pv 0) (ea_cons (ev_var (pv 1)) ea_nil))) ea_nil)) ev_int (fun _ _ => rfl))))
abbrev s__law_exchanged : Stmt := topS 35
theorem sc__law_exchanged : FnScope ["matrix", "places", "p", "q"] ["matrix", "places"] (defScope s__law_exchanged) := ⟨rfl, rfl, rfl, by decide +kernel, rfl, by decide +kernel, by decide +kernel⟩
abbrev sN__law_exchanged : List Str := ["matrix", "places", "p", "q"]
abbrev sP__law_exchanged : List Str := ["matrix", "places"]
def c__law_exchanged : SemS := (sRet (fCB gTuple (fCons (fLst (fLc (fItems (fVar 1)) (gVar 2) fYes (fCB gTuple (fCons (fLst (fLc (fItems (fVar 1)) (gVar 3) fYes (fBin gIx (fBin gIx (fVar 0) (fVar 2)) (fVar 3)) [3])) fNil)) [2])) fNil)))
def m__law_exchanged : List SV → Dk → Res D := mBody 2 2 c__law_exchanged
theorem bd__law_exchanged {f : Addr} {fd : FuncData} (F : Fun K "_law_exchanged" "_law_exchanged" s__law_exchanged f fd) : Binds K fd sP__law_exchanged [] := F.binds (ps := sP__law_exchanged) fun _ _ _ _ _ _ us hl => match us, hl with | [_, _], _ => rfl
theorem fn__law_exchanged {f : Addr} {fd : FuncData} (F : Fun K "_law_exchanged" "_law_exchanged" s__law_exchanged f fd) (at_ : mg "_law_exchanged" = some (.ref f)) (b_tuple : mg "tuple" = none) : FnR P w K mg base "_law_exchanged" s__law_exchanged 1 ["matrix", "places"] m__law_exchanged f fd :=
  have S := sc__law_exchanged
  fnR_of (N := sN__law_exchanged) (ps := sP__law_exchanged) (n := 2) (n' := 2) (fb := c__law_exchanged) F at_ S rfl rfl (bd__law_exchanged F) fun cdv A outer s H E hr =>
    (eb_one (es_ret (ev_ct cd_tuple (by rfl) b_tuple bt_tuple (el_cons (ev_o (eo_lc (own := [("p", 2)]) rfl S.nd (ei_items (ev_var (pv 1))) (blkOk_by rfl) (fun _ _ _ _ _ => (eg_var (pg_name (i := 2) S.nd rfl (by first | exact .inl rfl | exact .inr rfl)))) (fun _ _ _ _ _ => ec_nil) (fun _ _ _ _ _ => (ev_ct cd_tuple (by rfl) b_tuple bt_tuple (el_cons (ev_o (eo_lc (own := [("q", 3)]) rfl S.nd (ei_items (ev_var (pv 1))) (blkOk_by rfl) (fun _ _ _ _ _ => (eg_var (pg_name (i := 3) S.nd rfl (by first | exact .inl rfl | exact .inr rfl)))) (fun _ _ _ _ _ => ec_nil) (fun _ _ _ _ _ => (ev_ix xd_ix (ev_ix xd_ix (ev_var (pv 0)) (ev_var (pv 2)) (fun _ _ => rfl)) (ev_var (pv 3)) (fun _ _ => rfl))))) el_nil))))) el_nil))))
abbrev s_law : Stmt := topS 36
theorem sc_law : FnScope ["script", "source", "turn", "n", "matrix", "stable", "row", "line", "value", "more", "first", "places"] ["script"] (defScope s_law) := ⟨rfl, rfl, rfl, by decide +kernel, rfl, by decide +kernel, by decide +kernel⟩
def c_law : SemS := (sSeq (sFor (fRange1 (fCons (fC (.int 8)) fNil)) (gVar 2) (sSeq (sAsg (fBin gAdd (fC (.int 1)) (fCall mDrawC (fConsV 1 (fConsA (fC (.int 4)) fNil)))) (gVar 3))
  (sSeq (sAsg (fCall m__law_idempotent (fConsV 1 (fConsA (fVar 3) fNil))) (gVar 4))
  (sSeq (sAsg (fCall m_stabilised (fConsA (fVar 4) fNil)) (gVar 5))
  (sSeq (sIf (fOrT (fTest (fBin gNe (fVar 5) (fCall m__law_stable (fConsA (fVar 4) fNil)))) (fTest (fBin gNe (fCallK m_stabilised 0 1 [0] fNil (fConsA (fVar 4) fNil)) (fVar 5)))) (sRet (fC (.bool false))) sNil)
  (sSeq (sFor (fZip (fCons (fVar 4) (fCons (fVar 5) fNil))) (gTupD 2 (gsCons (gVar 6) (gsCons (gVar 7) gsNil))) (sFor (fZip (fCons (fVar 6) (fCons (fVar 7) fNil))) (gTupD 2 (gsCons (gVar 8) (gsCons (gVar 9) gsNil))) (sIf (fOrT (fTest (fBin gNe (fBin gEq (fVar 8) (fC (.int 0))) (fBin gEq (fVar 9) (fC (.int 0))))) (fOrT (fTest (fBin gNe (fBin gEq (fVar 8) (fC (.int 3))) (fBin gEq (fVar 9) (fC (.int 3))))) (fTest (fBin gLt (fVar 9) (fVar 8))))) (sRet (fC (.bool false))) sNil)))
  (sSeq (sIf (fOrT (fTest (fBin gIsNot (fCall m_is_idempotent (fConsA (fVar 5) fNil)) (fC (.bool true)))) (fOrT (fTest (fBin gIsNot (fCall m_is_at_most (fConsA (fVar 4) (fConsA (fVar 5) fNil))) (fC (.bool true)))) (fTest (fBin gNe (fCall m_stabilised (fConsA (fVar 5) fNil)) (fVar 5))))) (sRet (fC (.bool false))) sNil)
  (sSeq (sIf (fOrT (fTest (fBin gNe (fCall m_product (fConsA (fVar 4) (fConsA (fVar 5) fNil))) (fVar 5))) (fOrT (fTest (fBin gNe (fCall m_product (fConsA (fVar 5) (fConsA (fVar 4) fNil))) (fVar 5))) (fTest (fBin gNe (fCall m_product (fConsA (fVar 5) (fConsA (fVar 5) fNil))) (fVar 5))))) (sRet (fC (.bool false))) sNil)
  (sSeq (sAsg (fCall mDrawC (fConsV 1 (fConsA (fVar 3) fNil))) (gVar 10))
  (sSeq (sAsg (fBin gAdd (fLst (fLRg2 (fVar 10) (fVar 3))) (fLst (fLRg1 (fVar 10)))) (gVar 11))
  (sIf (fTest (fBin gNe (fCall m_stabilised (fConsA (fCall m__law_exchanged (fConsA (fVar 4) (fConsA (fVar 11) fNil))) fNil)) (fCall m__law_exchanged (fConsA (fVar 5) (fConsA (fVar 11) fNil))))) (sRet (fC (.bool false))) sNil)))))))))))
  (sRet (fC (.bool true))))
theorem fn_law {f fS : Addr} {fd dS : FuncData} {f_stabilised : Addr} {d_stabilised : FuncData} {f__law_exchanged : Addr} {d__law_exchanged : FuncData} {f__law_draw : Addr} {d__law_draw : FuncData} {f_product : Addr} {d_product : FuncData} {f_is_at_most : Addr} {d_is_at_most : FuncData} {f_is_idempotent : Addr} {d_is_idempotent : FuncData} {f__law_stable : Addr} {d__law_stable : FuncData} {f__law_idempotent : Addr} {d__law_idempotent : FuncData} (F : Fun K "law" "law" s_law f fd) (FS : Fun K "_law_source" "_law_source" s__law_source fS dS) (atS : mg "_law_source" = some (.ref fS)) (b_int : mg "int" = none) (b_range : mg "range" = none) (b_list : mg "list" = none) (b_zip : mg "zip" = none) (F_stabilised : FnR P w K mg base "stabilised" s_stabilised 6 ["matrix"] m_stabilised f_stabilised d_stabilised) (F__law_exchanged : FnR P w K mg base "_law_exchanged" s__law_exchanged 1 ["matrix", "places"] m__law_exchanged f__law_exchanged d__law_exchanged) (F__law_draw : FnR P w K mg base "_law_draw" s__law_draw 1 ["source", "many"] mDrawC f__law_draw d__law_draw) (F_product : FnR P w K mg base "product" s_product 7 ["one", "other"] m_product f_product d_product) (F_is_at_most : FnR P w K mg base "is_at_most" s_is_at_most 7 ["one", "other"] m_is_at_most f_is_at_most d_is_at_most) (F_is_idempotent : FnR P w K mg base "is_idempotent" s_is_idempotent 6 ["matrix"] m_is_idempotent f_is_idempotent d_is_idempotent) (F__law_stable : FnR P w K mg base "_law_stable" s__law_stable 1 ["matrix"] m__law_stable f__law_stable d__law_stable) (F__law_idempotent : FnR P w K mg base "_law_idempotent" s__law_idempotent 4 ["source", "n"] m__law_idempotent f__law_idempotent d__law_idempotent)
    (hm : ∀ ns : List Int, ns.length ≤ 63 → ∃ s', c_law (.sc ns :: .dk 3 :: List.replicate 10 .un) (srcC ns, 0, 0) = .rt (.bool true) s') : FnOk P w K mg base (L2.CX P w) 8 f fd ["script"] (spLaw K) :=
  have S := sc_law
  ok_lawC (n := 10) (m := c_law) F S rfl hm fun cdv A outer s H E hr =>
    pss_cons (ps_set (i := 1) S.nd rfl (.inl rfl) (pe_callS (fn__law_source FS b_int) (hr.mono (by decide)) (by rfl) atS FS.kp (FS.binds fun _ _ _ _ _ _ us hl => match us, hl with | [_], _ => rfl) (fun σ => passAt (takes_of rfl rfl rfl rfl) σ) (pa_cons (pv 0) pa_nil)))
    (eb_cons (es_for (passes_of rfl) rfl (ei_range1 (by rfl) b_range (el_cons ev_int el_nil)) (eg_var (pg_name (i := 2) S.nd rfl (by first | exact .inl rfl | exact .inr rfl))) (eb_cons (es_set (i := 3) S.nd rfl (by first | exact .inl rfl | exact .inr rfl) (ev_bin od_add ev_int (ev_call F__law_draw (hr.mono (by decide)) (by rfl) (takes_of rfl rfl rfl rfl) (ea_var (pv 1) (ea_cons ev_int ea_nil)))))
    (eb_cons (es_set (i := 4) S.nd rfl (by first | exact .inl rfl | exact .inr rfl) (ev_call F__law_idempotent (hr.mono (by decide)) (by rfl) (takes_of rfl rfl rfl rfl) (ea_var (pv 1) (ea_cons (ev_var (pv 3)) ea_nil))))
    (eb_cons (es_set (i := 5) S.nd rfl (by first | exact .inl rfl | exact .inr rfl) (ev_call F_stabilised (hr.mono (by decide)) (by rfl) (takes_of rfl rfl rfl rfl) (ea_cons (ev_var (pv 4)) ea_nil)))
    (eb_cons (es_if (et_w (ew_or (et_cmp (od_ne (hu64 hr)) (ev_var (pv 5)) (ev_call F__law_stable (hr.mono (by decide)) (by rfl) (takes_of rfl rfl rfl rfl) (ea_cons (ev_var (pv 4)) ea_nil)) (nomark _)) (ew_or1 (et_cmp (od_ne (hu64 hr)) (ev_callK0 F_stabilised (hr.mono (by decide)) (by rfl) (takes_of rfl rfl rfl rfl) (kbinds_of (ps := ["matrix"]) (ks := ["matrix"]) (a := 0) (b := 1) (π := [0]) F_stabilised.fn (by decide) fun _ _ _ _ _ _ us ws h1 h2 => match us, ws, h1, h2 with | [], [_], _, _ => rfl) (ek_cons (ev_var (pv 4)) ek_nil)) (ev_var (pv 5)) (nomark _))))) (eb_one (es_ret ev_bl)) eb_nil)
    (eb_cons (es_for (passes_of rfl) rfl (ei_zip (by rfl) b_zip (el_cons (ev_var (pv 4)) (el_cons (ev_var (pv 5)) el_nil))) (eg_tup rfl (egs_cons (eg_var (pg_name (i := 6) S.nd rfl (by first | exact .inl rfl | exact .inr rfl))) (egs_cons (eg_var (pg_name (i := 7) S.nd rfl (by first | exact .inl rfl | exact .inr rfl))) egs_nil))) (eb_one (es_for (passes_of rfl) rfl (ei_zip (by rfl) b_zip (el_cons (ev_var (pv 6)) (el_cons (ev_var (pv 7)) el_nil))) (eg_tup rfl (egs_cons (eg_var (pg_name (i := 8) S.nd rfl (by first | exact .inl rfl | exact .inr rfl))) (egs_cons (eg_var (pg_name (i := 9) S.nd rfl (by first | exact .inl rfl | exact .inr rfl))) egs_nil))) (eb_one (es_if (et_w (ew_or (et_cmp (od_ne (hu64 hr)) (ev_cmp (od_eq (hu64 hr)) (ev_var (pv 8)) ev_int (nomark _)) (ev_cmp (od_eq (hu64 hr)) (ev_var (pv 9)) ev_int (nomark _)) (nomark _)) (ew_or (et_cmp (od_ne (hu64 hr)) (ev_cmp (od_eq (hu64 hr)) (ev_var (pv 8)) ev_int (nomark _)) (ev_cmp (od_eq (hu64 hr)) (ev_var (pv 9)) ev_int (nomark _)) (nomark _)) (ew_or1 (et_cmp (od_lt (hu64 hr)) (ev_var (pv 9)) (ev_var (pv 8)) (nomark _)))))) (eb_one (es_ret ev_bl)) eb_nil)))))
    (eb_cons (es_if (et_w (ew_or (et_cmp od_isNot (ev_call F_is_idempotent (hr.mono (by decide)) (by rfl) (takes_of rfl rfl rfl rfl) (ea_cons (ev_var (pv 5)) ea_nil)) ev_bl (nomark _)) (ew_or (et_cmp od_isNot (ev_call F_is_at_most (hr.mono (by decide)) (by rfl) (takes_of rfl rfl rfl rfl) (ea_cons (ev_var (pv 4)) (ea_cons (ev_var (pv 5)) ea_nil))) ev_bl (nomark _)) (ew_or1 (et_cmp (od_ne (hu64 hr)) (ev_call F_stabilised (hr.mono (by decide)) (by rfl) (takes_of rfl rfl rfl rfl) (ea_cons (ev_var (pv 5)) ea_nil)) (ev_var (pv 5)) (nomark _)))))) (eb_one (es_ret ev_bl)) eb_nil)
    (eb_cons (es_if (et_w (ew_or (et_cmp (od_ne (hu64 hr)) (ev_call F_product (hr.mono (by decide)) (by rfl) (takes_of rfl rfl rfl rfl) (ea_cons (ev_var (pv 4)) (ea_cons (ev_var (pv 5)) ea_nil))) (ev_var (pv 5)) (nomark _)) (ew_or (et_cmp (od_ne (hu64 hr)) (ev_call F_product (hr.mono (by decide)) (by rfl) (takes_of rfl rfl rfl rfl) (ea_cons (ev_var (pv 5)) (ea_cons (ev_var (pv 4)) ea_nil))) (ev_var (pv 5)) (nomark _)) (ew_or1 (et_cmp (od_ne (hu64 hr)) (ev_call F_product (hr.mono (by decide)) (by rfl) (takes_of rfl rfl rfl rfl) (ea_cons (ev_var (pv 5)) (ea_cons (ev_var (pv 5)) ea_nil))) (ev_var (pv 5)) (nomark _)))))) (eb_one (es_ret ev_bl)) eb_nil)
    (eb_cons (es_set (i := 10) S.nd rfl (by first | exact .inl rfl | exact .inr rfl) (ev_call F__law_draw (hr.mono (by decide)) (by rfl) (takes_of rfl rfl rfl rfl) (ea_var (pv 1) (ea_cons (ev_var (pv 3)) ea_nil))))
    (eb_cons (es_set (i := 11) S.nd rfl (by first | exact .inl rfl | exact .inr rfl) (ev_bin od_add (ev_o (eo_lrg2 rfl (by rfl) b_list (by rfl) b_range (ev_var (pv 10)) (ev_var (pv 3)))) (ev_o (eo_lrg1 rfl (by rfl) b_list (by rfl) b_range (ev_var (pv 10))))))
    (eb_one (es_if (et_cmp (od_ne (hu64 hr)) (ev_call F_stabilised (hr.mono (by decide)) (by rfl) (takes_of rfl rfl rfl rfl) (ea_cons (ev_call F__law_exchanged (hr.mono (by decide)) (by rfl) (takes_of rfl rfl rfl rfl) (ea_cons (ev_var (pv 4)) (ea_cons (ev_var (pv 11)) ea_nil))) ea_nil)) (ev_call F__law_exchanged (hr.mono (by decide)) (by rfl) (takes_of rfl rfl rfl rfl) (ea_cons (ev_var (pv 5)) (ea_cons (ev_var (pv 11)) ea_nil))) (nomark _)) (eb_one (es_ret ev_bl)) eb_nil))))))))))))
    (eb_one (es_ret ev_bl)))
end
end Cw
namespace Cw
open PySem PySem.Spec PyProof.Rows L2
/-! ## names -/
theorem is_int_i (i : Int) (s : Dk) : m_is_int [.va (.int i)] s = .ok (.bool true) s := rfl
theorem within_i (i lo hi : Int) (s : Dk) : m_within [.va (.int i), .va (.int lo), .va (.int hi)] s = .ok (.bool (decide (lo ≤ i) && decide (i ≤ hi))) s := by
  refine mBody_rt rfl (sRet_ok (fAndV_ok (b := true) ?_ fun _ => fChain_ok (fVar_ok rfl) (fVar_ok rfl) (fVar_ok rfl) gLe_i gLe_i))
  exact fCall_ok (fConsA_ok (fVar_ok rfl) fNil_ok) (is_int_i i s)
theorem is_row_t (ds : List D) (lo hi : Int) (s : Dk) : m_is_row [.va (.tuple ds), .va (.int lo), .va (.int hi)] s = .ok (.bool (decide (lo ≤ ds.length) && decide ((ds.length : Int) ≤ hi))) s := by
  refine mBody_rt rfl (sRet_ok (fAndV_ok (b := true) rfl fun _ => fChain_ok (fVar_ok rfl) (y := .int ds.length) (fCB_ok (fCons_ok (fVar_ok rfl) fNil_ok) rfl) (fVar_ok rfl) gLe_i gLe_i))
theorem are_within_t (xs : List Int) (lo hi : Int) (hl : xs.length ≤ 1000000) (s : Dk) : m_are_within [.va (.tuple (xs.map .int)), .va (.int lo), .va (.int hi)] s = .ok (.bool (xs.all fun x => decide (lo ≤ x) && decide (x ≤ hi))) s := by
  refine mBody_rt rfl (sRet_ok (fAndV_ok (b := true) rfl fun _ => fCB_ok (xs := [.list ((xs.map fun x => decide (lo ≤ x) && decide (x ≤ hi)).map .bool)]) (fCons_ok (fLst_ok ?_) fNil_ok) ?_))
  · rw [List.map_map]
    refine fLc_map (δ := PyData.int) (fItems_ok (fVar_ok rfl) rfl) hl fun x _ => ⟨_, rfl, rfl, ?_⟩
    exact fCall_ok (fConsA_ok (fVar_ok rfl) (fConsA_ok (fVar_ok rfl) (fConsA_ok (fVar_ok rfl) fNil_ok))) (within_i x lo hi s)
  · rw [gAll_b, List.all_map]; rfl
/-! ## matrices -/
abbrev Mx := List (List Int)
abbrev rowD (r : List Int) : D := .tuple (r.map .int)
abbrev mxD (m : Mx) : D := .tuple (m.map rowD)
structure IsM (n : Nat) (m : Mx) : Prop where
  len : m.length = n
  row : ∀ r ∈ m, r.length = n
  val : ∀ r ∈ m, ∀ x ∈ r, 0 ≤ x ∧ x ≤ 3
  pos : 1 ≤ n
  le : n ≤ 4
theorem is_matrix_of_m {n : Nat} {m : Mx} (h : IsM n m) (s : Dk) : m_is_matrix_of [.va (.int n), .va (mxD m)] s = .ok (.bool true) s := by
  refine mBody_rt rfl (sSeq_nx (s1 := s) (sIf_F (fNotT_ok (b := true) (fTest_ok ?_)) rfl) (sRet_ok (fCB_ok (xs := [.list ((m.map fun _ => true).map .bool)]) (fCons_ok (fLst_ok ?_) fNil_ok) ?_)))
  · refine fCall_ok (fConsA_ok (fVar_ok rfl) (fConsA_ok (fVar_ok rfl) (fConsA_ok (fVar_ok rfl) fNil_ok))) ?_
    rw [is_row_t, List.length_map, h.len]
    simp
  · rw [List.map_map]
    refine fLc_map (δ := rowD) (fItems_ok (fVar_ok rfl) rfl) (by have := h.len; have := h.le; omega) fun r hr => ⟨_, rfl, rfl, ?_⟩
    have hr1 := h.row r hr
    refine fAndV_ok (b := true) (c := true) (fCall_ok (fConsA_ok (fVar_ok rfl) (fConsA_ok fC_e (fConsA_ok fC_e fNil_ok))) ?_) fun _ => fBin_ok (x := .int (r.length : Nat)) (fCB_ok (fCons_ok (fVar_ok rfl) fNil_ok) (by show some _ = some _; rw [List.length_map])) (fVar_ok rfl) ?_
    · rw [are_within_t r 0 3 (by have := h.le; omega)]
      have : (r.all fun x => decide (0 ≤ x) && decide (x ≤ 3)) = true := List.all_eq_true.mpr fun x hx => by
        have := h.val r hr x hx
        simp [this.1, this.2]
      rw [this]
    · rw [gEq_i, hr1]; simp
  · rw [gAll_b, List.all_map]
    simp
theorem need_matrix_m {n : Nat} {m : Mx} (h : IsM n m) (s : Dk) : m_need_matrix [.va (mxD m)] s = .ok .none s := by
  have hp := h.pos
  have hl := h.le
  refine mBody_nx rfl (sIf_F (fOrT_ok (b := false) (c := false) (fNotT_ok (b := true) (fTest_ok (fCall_ok (fConsA_ok (fVar_ok rfl) (fConsA_ok fC_e (fConsA_ok fC_e fNil_ok))) ?_))) fun _ => fNotT_ok (b := true) (fTest_ok (fCall_ok (fConsA_ok (fCB_ok (fCons_ok (fVar_ok rfl) fNil_ok) (z := .int n) ?_) (fConsA_ok (fVar_ok rfl) fNil_ok)) (is_matrix_of_m h s)))) rfl)
  · rw [is_row_t, List.length_map, h.len]
    rw [decide_eq_true (by omega), decide_eq_true (by omega)]; rfl
  · show some (PyData.int (m.map rowD).length) = _
    rw [List.length_map, h.len]
theorem need_two_m {n : Nat} {a b : Mx} (h : IsM n a) (h2 : IsM n b) (s : Dk) : m_need_two [.va (mxD a), .va (mxD b)] s = .ok .none s := by
  refine mBody_nx rfl (sSeq_nx (s1 := s) (sExpr_ok (fCall_ok (fConsA_ok (fVar_ok rfl) fNil_ok) (need_matrix_m h s))) (sIf_F (fNotT_ok (b := true) (fTest_ok (fCall_ok (fConsA_ok (fCB_ok (fCons_ok (fVar_ok rfl) fNil_ok) (z := .int n) ?_) (fConsA_ok (fVar_ok rfl) fNil_ok)) (is_matrix_of_m h2 s)))) rfl))
  show some (PyData.int (a.map rowD).length) = _
  rw [List.length_map, h.len]
/-- entry of row i, column j -/
def ent (m : Mx) (i j : Nat) : Int := (m.getD i []).getD j 0
def minL : List Int → Int
  | [] => 0
  | x :: xs => xs.foldl min x
def colOf (m : Mx) (j : Nat) : List Int := m.map fun r => r.getD j 0
def colsOf (n : Nat) (m : Mx) : List (List Int) := (upto n).map fun j => colOf m j.toNat
def mulM (n : Nat) (a b : Mx) : Mx := a.map fun row => (colsOf n b).map fun col => minL (List.zipWith max row col)
theorem ix_row {r : List Int} {j : Int} (h0 : 0 ≤ j) (h : j < r.length) : gIx (rowD r) (.int j) = some (.int (r.getD j.toNat 0)) := by
  obtain ⟨k, rfl⟩ : ∃ k : Nat, j = k := ⟨j.toNat, by omega⟩
  refine gIx_t (n := k) ?_
  rw [List.getElem?_map, List.getD_eq_getElem?_getD, Int.toNat_natCast, List.getElem?_eq_getElem (by omega)]; rfl
abbrev lstD (r : List Int) : D := .list (r.map .int)
theorem columns_of_m {n : Nat} {m : Mx} (h : IsM n m) (s : Dk) : m_columns_of [.va (mxD m)] s = .ok (.list ((colsOf n m).map lstD)) s := by
  refine mBody_rt rfl (sRet_ok (fLst_ok ?_))
  unfold colsOf
  rw [List.map_map]
  refine fLc_map (δ := PyData.int) (fRange1_ok (fCons_ok (fCB_ok (fCons_ok (fVar_ok rfl) fNil_ok) (z := .int n) ?_) fNil_ok) ?_) ?_ fun j hj => ⟨_, rfl, rfl, ?_⟩
  · show some (PyData.int (m.map rowD).length) = _
    rw [List.length_map, h.len]
  · have := h.le; omega
  · rw [upto_len]; have := h.le; omega
  · refine fLst_ok (xs := (colOf m j.toNat).map .int) ?_
    unfold colOf
    rw [List.map_map]
    refine fLc_map (δ := rowD) (fItems_ok (fVar_ok rfl) rfl) (by have := h.le; have := h.len; omega) fun r hr => ⟨_, rfl, rfl, ?_⟩
    have hj := mem_upto.mp hj
    exact fBin_ok (fVar_ok rfl) (fVar_ok rfl) (ix_row hj.1 (by rw [h.row r hr]; exact hj.2))
theorem gMin_l {ns : List Int} (h : ns ≠ []) : gMin [.list (ns.map .int)] = some (.int (minL ns)) := by
  cases ns with
  | nil => exact absurd rfl h
  | cons n r =>
    show (match intsOf ((n :: r).map PyData.int) with | some (n :: ns) => some (PyData.int (ns.foldl min n)) | _ => none) = _
    rw [intsOf_map]; rfl
theorem zw_zip (f : Int → Int → Int) : ∀ xs ys : List Int, List.zipWith f xs ys = (xs.zip ys).map fun p => f p.1 p.2
  | [], _ => by simp
  | _ :: _, [] => by simp
  | x :: xs, y :: ys => by simp only [List.zipWith_cons_cons, List.zip_cons_cons, List.map_cons, zw_zip f xs ys]
theorem product_entry_m {r c : List Int} (h1 : r.length ≤ 4) (h2 : r.length = c.length) (h3 : r ≠ []) (s : Dk) : m_product_entry [.va (rowD r), .va (lstD c)] s = .ok (.int (minL (List.zipWith max r c))) s := by
  refine mBody_rt rfl (sRet_ok (fCB_ok (xs := [.list ((List.zipWith max r c).map .int)]) (fCons_ok (fLst_ok ?_) fNil_ok) (gMin_l ?_)))
  · rw [zw_zip, List.map_map]
    refine fLc_map (δ := fun p : Int × Int => PyData.tuple [.int p.1, .int p.2]) ((fZip_ok (fCons_ok (fVar_ok rfl) (fCons_ok (fVar_ok rfl) fNil_ok)) rfl rfl).trans (by rw [zipD_map])) (by rw [List.length_zip]; omega) fun p _ => ⟨_, rfl, rfl, ?_⟩
    exact fCB_ok (fCons_ok (fVar_ok rfl) (fCons_ok (fVar_ok rfl) fNil_ok)) rfl
  · intro z
    have h4 : (List.zipWith max r c).length = 0 := by rw [z]; rfl
    rw [List.length_zipWith] at h4
    exact h3 (List.length_eq_zero_iff.mp (by omega))
theorem product_entry_l {r c : List Int} (h1 : r.length ≤ 4) (h2 : r.length = c.length) (h3 : r ≠ []) (s : Dk) : m_product_entry [.va (lstD r), .va (lstD c)] s = .ok (.int (minL (List.zipWith max r c))) s := by
  refine mBody_rt rfl (sRet_ok (fCB_ok (xs := [.list ((List.zipWith max r c).map .int)]) (fCons_ok (fLst_ok ?_) fNil_ok) (gMin_l ?_)))
  · rw [zw_zip, List.map_map]
    refine fLc_map (δ := fun p : Int × Int => PyData.tuple [.int p.1, .int p.2]) ((fZip_ok (fCons_ok (fVar_ok rfl) (fCons_ok (fVar_ok rfl) fNil_ok)) rfl rfl).trans (by rw [zipD_map])) (by rw [List.length_zip]; omega) fun p _ => ⟨_, rfl, rfl, ?_⟩
    exact fCB_ok (fCons_ok (fVar_ok rfl) (fCons_ok (fVar_ok rfl) fNil_ok)) rfl
  · intro z
    have h4 : (List.zipWith max r c).length = 0 := by rw [z]; rfl
    rw [List.length_zipWith] at h4
    exact h3 (List.length_eq_zero_iff.mp (by omega))
theorem product_in_m {n : Nat} {a b : Mx} (h : IsM n a) (h2 : IsM n b) (s : Dk) : m_product_in [.va (mxD a), .va (mxD b)] s = .ok (mxD (mulM n a b)) s := by
  have hp := h.pos
  have hl := h.le
  refine mBody_rt rfl (sSeq_nx (s1 := s) (sAsg_ok (fCall_ok (fConsA_ok (fVar_ok rfl) fNil_ok) (columns_of_m h2 s)) rfl) (sRet_ok (fCB_ok (fCons_ok (fLst_ok ?_) fNil_ok) rfl)))
  unfold mulM
  rw [List.map_map]
  refine fLc_map (δ := rowD) (fItems_ok (fVar_ok rfl) rfl) (by have := h.len; omega) fun r hr => ⟨_, rfl, rfl, fCB_ok (fCons_ok (fLst_ok ?_) fNil_ok) rfl⟩
  rw [List.map_map]
  refine fLc_map (δ := lstD) (fItems_ok (fVar_ok rfl) rfl) (by unfold colsOf; rw [List.length_map, upto_len]; omega) fun c hc => ⟨_, rfl, rfl, ?_⟩
  obtain ⟨j, _, rfl⟩ := List.mem_map.mp hc
  have hr1 := h.row r hr
  refine fCall_ok (fConsA_ok (fVar_ok rfl) (fConsA_ok (fVar_ok rfl) fNil_ok)) (product_entry_m (by omega) ?_ ?_ s)
  · unfold colOf; rw [List.length_map, h2.len, hr1]
  · intro z; rw [z] at hr1; simp at hr1; omega
theorem product_m {n : Nat} {a b : Mx} (h : IsM n a) (h2 : IsM n b) (s : Dk) : m_product [.va (mxD a), .va (mxD b)] s = .ok (mxD (mulM n a b)) s :=
  mBody_rt rfl (sSeq_nx (s1 := s) (sExpr_ok (fCall_ok (fConsA_ok (fVar_ok rfl) (fConsA_ok (fVar_ok rfl) fNil_ok)) (need_two_m h h2 s))) (sRet_ok (fCall_ok (fConsA_ok (fVar_ok rfl) (fConsA_ok (fVar_ok rfl) fNil_ok)) (product_in_m h h2 s))))
/-! ## the law's own -/
def timesM (n : Nat) (a b : Mx) : Mx := a.map fun row => (upto n).map fun q => minL ((upto n).map fun r => max (row.getD r.toNat 0) ((b.getD r.toNat []).getD q.toNat 0))
theorem ix_mx {m : Mx} {j : Int} (h0 : 0 ≤ j) (h : j < m.length) : gIx (mxD m) (.int j) = some (rowD (m.getD j.toNat [])) := by
  obtain ⟨k, rfl⟩ : ∃ k : Nat, j = k := ⟨j.toNat, by omega⟩
  refine gIx_t (n := k) ?_
  rw [List.getElem?_map, List.getD_eq_getElem?_getD, Int.toNat_natCast, List.getElem?_eq_getElem (by omega)]; rfl
theorem row_mem {n : Nat} {m : Mx} (h : IsM n m) {j : Nat} (hj : j < n) : m.getD j [] ∈ m := by
  have hl := h.len
  rw [List.getD_eq_getElem?_getD, List.getElem?_eq_getElem (by omega)]
  exact List.getElem_mem _
theorem times_m {n : Nat} {a b : Mx} (h : IsM n a) (h2 : IsM n b) (s : Dk) : m__law_times [.va (mxD a), .va (mxD b)] s = .ok (mxD (timesM n a b)) s := by
  have hp := h.pos
  have hl := h.le
  refine mBody_rt rfl (sSeq_nx (s1 := s) (sAsg_ok (fLst_ok (fLRg1_ok (fCB_ok (fCons_ok (fVar_ok rfl) fNil_ok) (z := .int n) ?_) (by omega))) rfl) (sRet_ok (fCB_ok (fCons_ok (fLst_ok ?_) fNil_ok) rfl)))
  · show some (PyData.int (a.map rowD).length) = _
    rw [List.length_map, h.len]
  unfold timesM
  rw [List.map_map]
  refine fLc_map (δ := rowD) (fItems_ok (fVar_ok rfl) rfl) (by have := h.len; omega) fun r hr => ⟨_, rfl, rfl, fCB_ok (fCons_ok (fLst_ok ?_) fNil_ok) rfl⟩
  rw [List.map_map]
  refine fLc_map (δ := PyData.int) (fItems_ok (fVar_ok rfl) rfl) (by rw [upto_len]; omega) fun q hq => ⟨_, rfl, rfl, ?_⟩
  refine fCB_ok (fCons_ok (fLst_ok (xs := ((upto n).map fun t => max (r.getD t.toNat 0) ((b.getD t.toNat []).getD q.toNat 0)).map .int) ?_) fNil_ok) (gMin_l ?_)
  · rw [List.map_map]
    refine fLc_map (δ := PyData.int) (fItems_ok (fVar_ok rfl) rfl) (by rw [upto_len]; omega) fun t ht => ⟨_, rfl, rfl, ?_⟩
    have ht := mem_upto.mp ht
    have hq := mem_upto.mp hq
    have r1 := h.row r hr
    have r2 := h2.row _ (row_mem h2 (j := t.toNat) (by omega))
    exact fCB_ok (fCons_ok (fBin_ok (fVar_ok rfl) (fVar_ok rfl) (ix_row ht.1 (by rw [r1]; exact ht.2))) (fCons_ok (fBin_ok (fBin_ok (fVar_ok rfl) (fVar_ok rfl) (ix_mx ht.1 (by rw [h2.len]; exact ht.2))) (fVar_ok rfl) (ix_row hq.1 (by rw [r2]; exact hq.2))) fNil_ok)) rfl
  · intro z
    have := congrArg List.length z
    rw [List.length_map, upto_len] at this
    simp at this; omega
/-! ## drawn matrices -/
theorem paired_mem {α β : Type} {R : α → β → Prop} : ∀ {xs : List α} {ys : List β}, Paired R xs ys → ∀ y ∈ ys, ∃ x ∈ xs, R x y
  | _, _, .nil, y, h => by cases h
  | _, _, .cons h r, y, m => by
    rcases List.mem_cons.mp m with rfl | m
    · exact ⟨_, List.mem_cons_self, h⟩
    · obtain ⟨x, hx, q⟩ := paired_mem r y m
      exact ⟨x, List.mem_cons_of_mem _ hx, q⟩
theorem range1_v {ρ : En} {i n : Nat} (h : ρ[i]? = some (.va (.int n))) (hn : n < 2 ^ 62) (s : Dk) : fRange1 (fCons (fVar i) fNil) ρ s = .ok ((upto n).map PyData.int) s := fRange1_ok (fCons_ok (fVar_ok h) fNil_ok) hn
theorem matrix_dr {n : Nat} (h1 : 1 ≤ n) (h4 : n ≤ 4) : Dr 3 17 (m__law_matrix [.dk 3, .va (.int n)]) fun d => ∃ m, d = mxD m ∧ IsM n m := by
  refine Dr.body rfl ?_
  refine DrR.seq (c := 1) (d := 16) (P := fun ρ => ∃ k : Int, ρ = [.dk 3, .va (.int n), .va (.int k), .un, .un, .un] ∧ 0 ≤ k ∧ k < 3) (DrS.asg (Dr.call (fun s => fConsV_dk rfl (fConsA_ok fC_e fNil_ok)) (Dr.draw (by decide) (by decide))) ?_) ?_
  · rintro d ⟨k, rfl, h⟩
    exact ⟨_, rfl, k, rfl, h⟩
  rintro ρ ⟨k, rfl, hk⟩
  refine DrR.seq (c := 0) (d := 16) (P := fun ρ => ∃ vs : List Int, ρ = [.dk 3, .va (.int n), .va (.int k), .va (lstD vs), .un, .un] ∧ 0 < vs.length ∧ vs.length ≤ 6 ∧ ∀ x ∈ vs, 0 ≤ x ∧ x ≤ 3) ?_ ?_
  · have hk3 : k = 0 ∨ k = 1 ∨ k = 2 := by omega
    rcases hk3 with rfl | rfl | rfl
    · exact DrS.pure (fun s => rfl) ⟨[0, 1, 2, 3], rfl, by decide, by decide, by decide⟩
    · exact DrS.pure (fun s => rfl) ⟨[0, 1, 3, 3, 3], rfl, by decide, by decide, by decide⟩
    · exact DrS.pure (fun s => rfl) ⟨[0, 1, 1, 2, 3, 3], rfl, by decide, by decide, by decide⟩
  rintro ρ ⟨vs, rfl, v1, v2, v3⟩
  refine DrR.ret (Dr.cb1 (P := fun d => ∃ m : Mx, d = .list (m.map rowD) ∧ IsM n m) ?_ ?_)
  · refine (Dr.lst ((Dr.lc (δ := PyData.int) (ε := rowD) (c := 4) (P := fun _ r => r.length = n ∧ ∀ x ∈ r, 0 ≤ x ∧ x ≤ 3) (range1_v rfl (by omega)) (by rw [upto_len]; omega) fun i hi => ⟨_, rfl, fun _ => rfl, ?_⟩).more (d := 16) (by rw [upto_len]; omega))).imp ?_
    · refine Dr.cb1 (P := fun d => ∃ r : List Int, d = lstD r ∧ r.length = n ∧ ∀ x ∈ r, 0 ≤ x ∧ x ≤ 3) ?_ ?_
      · refine (Dr.lst ((Dr.lc (δ := PyData.int) (ε := PyData.int) (c := 1) (P := fun _ x => 0 ≤ x ∧ x ≤ 3) (range1_v rfl (by omega)) (by rw [upto_len]; omega) fun j hj => ⟨_, rfl, fun _ => rfl, ?_⟩).more (d := 4) (by rw [upto_len]; omega))).imp ?_
        · refine Dr.bin (fun s => fVar_ok rfl) (Dr.call (xs := [.dk 3, .va (.int vs.length)]) (fun s => fConsV_dk rfl (fConsA_ok (fCB_ok (fCons_ok (fVar_ok rfl) fNil_ok) ?_) fNil_ok)) (Dr.draw (by omega) (by omega))) ?_
          · show some (PyData.int (vs.map PyData.int).length) = _
            rw [List.length_map]
          · rintro d ⟨t, rfl, t0, t1⟩
            obtain ⟨u, rfl⟩ : ∃ u : Nat, t = u := ⟨t.toNat, by omega⟩
            refine ⟨_, gIx_l (n := u) (d := .int (vs.getD u 0)) ?_, _, rfl, ?_⟩
            · rw [List.getElem?_map, List.getD_eq_getElem?_getD, List.getElem?_eq_getElem (by omega)]; rfl
            · refine v3 _ ?_
              rw [List.getD_eq_getElem?_getD, List.getElem?_eq_getElem (by omega)]
              exact List.getElem_mem _
        · rintro d ⟨ds, rfl, ys, rfl, p⟩
          refine ⟨ys, rfl, by rw [← paired_len p, upto_len], fun x hx => ?_⟩
          obtain ⟨_, _, q⟩ := paired_mem p x hx
          exact q
      · rintro d ⟨r, rfl, h⟩
        exact ⟨_, rfl, r, rfl, h⟩
    · rintro d ⟨ds, rfl, ys, rfl, p⟩
      refine ⟨ys, rfl, by rw [← paired_len p, upto_len], fun r hr => ?_, fun r hr => ?_, h1, h4⟩
      · obtain ⟨_, _, q⟩ := paired_mem p r hr
        exact q.1
      · obtain ⟨_, _, q⟩ := paired_mem p r hr
        exact q.2
  · rintro d ⟨m, rfl, h⟩
    exact ⟨_, rfl, m, rfl, h⟩
/-! ## the mathematics -/
theorem minL_foldl (x y : Int) : ∀ (l : List Int) , (x ≤ l.foldl min y ↔ x ≤ y ∧ ∀ z ∈ l, x ≤ z)
  | [] => by simp
  | z :: l => by
    rw [List.foldl_cons, minL_foldl x (min y z) l, Int.le_min]
    constructor
    · rintro ⟨⟨h1, h2⟩, h3⟩
      exact ⟨h1, fun w hw => (List.mem_cons.mp hw).elim (fun e => by rw [e]; exact h2) (h3 w)⟩
    · rintro ⟨h1, h2⟩
      exact ⟨⟨h1, h2 z List.mem_cons_self⟩, fun w hw => h2 w (List.mem_cons_of_mem _ hw)⟩
theorem le_minL {x : Int} {l : List Int} (h : l ≠ []) : x ≤ minL l ↔ ∀ z ∈ l, x ≤ z := by
  cases l with
  | nil => exact absurd rfl h
  | cons y l =>
    show x ≤ l.foldl min y ↔ _
    rw [minL_foldl]
    simp
theorem foldl_min_mem (y : Int) : ∀ l : List Int, l.foldl min y = y ∨ l.foldl min y ∈ l
  | [] => .inl rfl
  | z :: l => by
    rw [List.foldl_cons]
    rcases foldl_min_mem (min y z) l with h | h
    · rw [h]
      by_cases c : y ≤ z
      · rw [Int.min_eq_left c]; exact .inl rfl
      · rw [Int.min_eq_right (by omega)]; exact .inr List.mem_cons_self
    · exact .inr (List.mem_cons_of_mem _ h)
theorem minL_mem {l : List Int} (h : l ≠ []) : minL l ∈ l := by
  cases l with
  | nil => exact absurd rfl h
  | cons y l =>
    rcases foldl_min_mem y l with e | e
    · show l.foldl min y ∈ _
      rw [e]; exact List.mem_cons_self
    · exact List.mem_cons_of_mem _ e
theorem upto_get {n i : Nat} (h : i < n) : (upto n)[i]? = some (i : Int) := by
  unfold upto
  rw [List.getElem?_map, List.getElem?_range h]; rfl
theorem getD_map {α β : Type} {f : α → β} {l : List α} {i : Nat} {d : α} {e : β} (h : i < l.length) : (l.map f).getD i e = f (l.getD i d) := by
  rw [List.getD_eq_getElem?_getD, List.getD_eq_getElem?_getD, List.getElem?_map, List.getElem?_eq_getElem h]; rfl
theorem getD_upto {β : Type} {f : Int → β} {n i : Nat} {e : β} (h : i < n) : ((upto n).map f).getD i e = f i := by
  rw [List.getD_eq_getElem?_getD, List.getElem?_map, upto_get h]; rfl
theorem ext_M {n : Nat} {a b : Mx} (h : IsM n a) (h2 : IsM n b) (e : ∀ i j, i < n → j < n → ent a i j = ent b i j) : a = b := by
  refine List.ext_getElem (by rw [h.len, h2.len]) fun i hi hi2 => ?_
  have hin : i < n := by rw [← h.len]; exact hi
  refine List.ext_getElem (by rw [h.row _ (List.getElem_mem hi), h2.row _ (List.getElem_mem hi2)]) fun j hj hj2 => ?_
  have hjn : j < n := by rw [← h.row _ (List.getElem_mem hi)]; exact hj
  have := e i j hin hjn
  unfold ent at this
  simpa [List.getD_eq_getElem?_getD, List.getElem?_eq_getElem, hi, hi2, hj, hj2] using this
theorem ent_val {n : Nat} {a : Mx} (h : IsM n a) {i j : Nat} (hi : i < n) (hj : j < n) : 0 ≤ ent a i j ∧ ent a i j ≤ 3 := by
  have hr := row_mem h hi
  refine h.val _ hr _ ?_
  have := h.row _ hr
  unfold ent
  rw [List.getD_eq_getElem?_getD (l := a.getD i []), List.getElem?_eq_getElem (by omega)]
  exact List.getElem_mem _
theorem isM_of {n : Nat} {f : Int → Int → Int} (h1 : 1 ≤ n) (h4 : n ≤ 4) (hf : ∀ i j, 0 ≤ f i j ∧ f i j ≤ 3) : IsM n ((upto n).map fun i => (upto n).map fun j => f i j) := by
  refine ⟨by rw [List.length_map, upto_len], fun r hr => ?_, fun r hr x hx => ?_, h1, h4⟩
  · obtain ⟨i, _, rfl⟩ := List.mem_map.mp hr
    rw [List.length_map, upto_len]
  · obtain ⟨i, _, rfl⟩ := List.mem_map.mp hr
    obtain ⟨j, _, rfl⟩ := List.mem_map.mp hx
    exact hf i j
theorem zw_len {n : Nat} {a b : Mx} (h : IsM n a) (h2 : IsM n b) {i j : Nat} (hi : i < n) : (List.zipWith max (a.getD i []) (colOf b j)).length = n := by
  rw [List.length_zipWith, h.row _ (row_mem h hi)]
  unfold colOf
  rw [List.length_map, h2.len]; omega
theorem ent_mul {n : Nat} {a b : Mx} (h : IsM n a) (h2 : IsM n b) {i j : Nat} (hi : i < n) (hj : j < n) : ent (mulM n a b) i j = minL (List.zipWith max (a.getD i []) (colOf b j)) := by
  unfold ent mulM
  rw [getD_map (d := []) (by rw [h.len]; exact hi)]
  unfold colsOf
  rw [List.map_map, getD_upto hj]
  rfl
theorem le_ent_mul {n : Nat} {a b : Mx} (h : IsM n a) (h2 : IsM n b) {i j : Nat} (hi : i < n) (hj : j < n) {x : Int} : x ≤ ent (mulM n a b) i j ↔ ∀ r, r < n → x ≤ ent a i r ∨ x ≤ ent b r j := by
  rw [ent_mul h h2 hi hj]
  have hz := zw_len (j := j) h h2 hi
  rw [le_minL (by intro z; rw [z] at hz; have := h.pos; simp at hz; omega)]
  have hr := h.row _ (row_mem h hi)
  have key : ∀ r, r < n → (List.zipWith max (a.getD i []) (colOf b j))[r]? = some (max (ent a i r) (ent b r j)) := fun r hrn => by
    have l2 := h2.len
    have g1 : (a.getD i [])[r]? = some (ent a i r) := by
      unfold ent
      rw [List.getD_eq_getElem?_getD (l := a.getD i []), List.getElem?_eq_getElem (by omega)]; rfl
    have g2 : (colOf b j)[r]? = some (ent b r j) := by
      unfold colOf ent
      rw [List.getElem?_map, List.getD_eq_getElem?_getD (l := b), List.getElem?_eq_getElem (by omega)]; rfl
    rw [List.getElem?_zipWith, g1, g2]
  constructor
  · intro hall r hrn
    have := hall _ (List.mem_of_getElem? (key r hrn))
    omega
  · intro hall z hzm
    obtain ⟨r, hrl, e⟩ := List.mem_iff_getElem.mp hzm
    have hrn : r < n := by rw [← hz]; exact hrl
    have k := key r hrn
    rw [List.getElem?_eq_getElem hrl, e] at k
    have k := Option.some.inj k
    have := hall r hrn
    omega
theorem isM_mul {n : Nat} {a b : Mx} (h : IsM n a) (h2 : IsM n b) : IsM n (mulM n a b) := by
  refine ⟨by unfold mulM; rw [List.length_map, h.len], fun r hr => ?_, fun r hr x hx => ?_, h.pos, h.le⟩
  · obtain ⟨r0, _, rfl⟩ := List.mem_map.mp hr
    unfold colsOf
    rw [List.length_map, List.length_map, upto_len]
  · obtain ⟨r0, hr0, rfl⟩ := List.mem_map.mp hr
    obtain ⟨c, hc, rfl⟩ := List.mem_map.mp hx
    unfold colsOf at hc
    obtain ⟨j, hj, rfl⟩ := List.mem_map.mp hc
    have hj := mem_upto.mp hj
    have hl : (List.zipWith max r0 (colOf b j.toNat)).length = n := by
      unfold colOf
      rw [List.length_zipWith, h.row _ hr0, List.length_map, h2.len]; omega
    have hm := minL_mem (l := List.zipWith max r0 (colOf b j.toNat)) (by intro z; rw [z] at hl; have := h.pos; simp at hl; omega)
    obtain ⟨k, hk, e⟩ := List.mem_iff_getElem.mp hm
    rw [List.getElem_zipWith] at e
    have hk' : k < n := by rw [← hl]; exact hk
    have b1 := h.val r0 hr0 _ (List.getElem_mem (by rw [h.row _ hr0]; exact hk'))
    have hl2 : (colOf b j.toNat).length = n := by unfold colOf; rw [List.length_map, h2.len]
    have b2 : ∀ y ∈ colOf b j.toNat, 0 ≤ y ∧ y ≤ 3 := fun y hy => by
      unfold colOf at hy
      obtain ⟨r, hr, rfl⟩ := List.mem_map.mp hy
      refine h2.val r hr _ ?_
      have := h2.row r hr
      rw [List.getD_eq_getElem?_getD, List.getElem?_eq_getElem (by omega)]
      exact List.getElem_mem _
    have b3 := b2 _ (List.getElem_mem (by rw [hl2]; exact hk'))
    omega
theorem eq_of_le {a b : Int} (h : ∀ x : Int, x ≤ a ↔ x ≤ b) : a = b := Int.le_antisymm ((h a).mp (Int.le_refl _)) ((h b).mpr (Int.le_refl _))
theorem mul_assoc_M {n : Nat} {a b c : Mx} (h : IsM n a) (h2 : IsM n b) (h3 : IsM n c) : mulM n (mulM n a b) c = mulM n a (mulM n b c) := by
  refine ext_M (isM_mul (isM_mul h h2) h3) (isM_mul h (isM_mul h2 h3)) fun i j hi hj => eq_of_le fun x => ?_
  rw [le_ent_mul (isM_mul h h2) h3 hi hj, le_ent_mul h (isM_mul h2 h3) hi hj]
  constructor
  · intro q t ht
    by_cases c1 : x ≤ ent a i t
    · exact .inl c1
    · refine .inr ((le_ent_mul h2 h3 ht hj).mpr fun r hr => ?_)
      rcases q r hr with q | q
      · exact .inl (((le_ent_mul h h2 hi hr).mp q t ht).resolve_left c1)
      · exact .inr q
  · intro q r hr
    by_cases c1 : x ≤ ent c r j
    · exact .inr c1
    · refine .inl ((le_ent_mul h h2 hi hr).mpr fun t ht => ?_)
      rcases q t ht with q | q
      · exact .inl q
      · exact .inr (((le_ent_mul h2 h3 ht hj).mp q r hr).resolve_right c1)
theorem times_eq {n : Nat} {a b : Mx} (h : IsM n a) (h2 : IsM n b) : timesM n a b = mulM n a b := by
  have hp := h.pos
  unfold timesM mulM colsOf
  refine List.map_congr_left fun r hr => ?_
  rw [List.map_map]
  refine List.map_congr_left fun q hq => congrArg minL ?_
  have r1 := h.row r hr
  have l2 := h2.len
  refine List.ext_getElem? fun k => ?_
  by_cases hk : k < n
  · rw [List.getElem?_map, upto_get hk, List.getElem?_zipWith]
    unfold colOf
    rw [List.getElem?_map, List.getElem?_eq_getElem (show k < r.length by omega), List.getElem?_eq_getElem (show k < b.length by omega)]
    simp [List.getD_eq_getElem?_getD, List.getElem?_eq_getElem, r1, l2, hk]
  · rw [List.getElem?_eq_none (by rw [List.length_map, upto_len]; omega), List.getElem?_eq_none (by rw [List.length_zipWith]; omega)]
def unitM (n : Nat) : Mx := (upto n).map fun p => (upto n).map fun q => if p = q then 0 else 3
theorem isM_unit {n : Nat} (h1 : 1 ≤ n) (h4 : n ≤ 4) : IsM n (unitM n) := isM_of (f := fun p q => if p = q then 0 else 3) h1 h4 fun i j => by
  show 0 ≤ (if i = j then (0 : Int) else 3) ∧ (if i = j then (0 : Int) else 3) ≤ 3
  split <;> decide
theorem ent_unit {n i j : Nat} (hi : i < n) (hj : j < n) : ent (unitM n) i j = if i = j then 0 else 3 := by
  unfold ent unitM
  rw [getD_upto hi, getD_upto hj]
  by_cases e : i = j
  · rw [if_pos e, if_pos (by omega)]
  · rw [if_neg e, if_neg (by omega)]
theorem unit_mul {n : Nat} {a : Mx} (h : IsM n a) : mulM n (unitM n) a = a := by
  have hu := isM_unit h.pos h.le
  refine ext_M (isM_mul hu h) h fun i j hi hj => eq_of_le fun x => ?_
  rw [le_ent_mul hu h hi hj]
  have v := ent_val h hi hj
  constructor
  · intro q
    have := q i hi
    rw [ent_unit hi hi, if_pos rfl] at this
    omega
  · intro q r hr
    by_cases e : i = r
    · subst e; exact .inr q
    · rw [ent_unit hi hr, if_neg e]; left; omega
theorem mul_unit {n : Nat} {a : Mx} (h : IsM n a) : mulM n a (unitM n) = a := by
  have hu := isM_unit h.pos h.le
  refine ext_M (isM_mul h hu) h fun i j hi hj => eq_of_le fun x => ?_
  rw [le_ent_mul h hu hi hj]
  have v := ent_val h hi hj
  constructor
  · intro q
    have := q j hj
    rw [ent_unit hj hj, if_pos rfl] at this
    omega
  · intro q r hr
    by_cases e : r = j
    · subst e; exact .inl q
    · rw [ent_unit hr hj, if_neg e]; right; omega
theorem mxD_dat (m : Mx) : mxD m = dat (⟨m.map PySem.W.Tup.mk⟩ : PySem.W.Tup (PySem.W.Tup Int)) := by
  show PyData.tuple _ = PyData.tuple ((m.map PySem.W.Tup.mk).map _)
  rw [List.map_map]; rfl
theorem gNe_mx (m : Mx) : gNe (mxD m) (mxD m) = some (.bool false) := by
  rw [mxD_dat, gNe_dat (by decide), decide_eq_true rfl]; rfl
theorem gNe_mx' {a b : Mx} (h : a = b) : gNe (mxD a) (mxD b) = some (.bool false) := by rw [h]; exact gNe_mx b
/-! ## powers: four states, by all relations -/
theorem orT (x y i : Nat) : (Nat.lor x y).testBit i = (x.testBit i || y.testBit i) := Nat.testBit_or x y i
theorem andT (x y i : Nat) : (Nat.land x y).testBit i = (x.testBit i && y.testBit i) := Nat.testBit_and x y i
theorem shrT (x k i : Nat) : (Nat.shiftRight x k).testBit i = x.testBit (k + i) := Nat.testBit_shiftRight x
theorem shlT (x k i : Nat) : (Nat.shiftLeft x k).testBit i = (decide (i ≥ k) && x.testBit (i - k)) := Nat.testBit_shiftLeft x
def rowsB (a : Nat) : Nat := Nat.lor (Nat.lor (Nat.land a 4369) (Nat.shiftLeft (Nat.land a 4369) 1)) (Nat.lor (Nat.shiftLeft (Nat.land a 4369) 2) (Nat.shiftLeft (Nat.land a 4369) 3))
def colsB (b : Nat) : Nat := Nat.lor (Nat.lor (Nat.land b 15) (Nat.shiftLeft (Nat.land b 15) 4)) (Nat.lor (Nat.shiftLeft (Nat.land b 15) 8) (Nat.shiftLeft (Nat.land b 15) 12))
def mulB (a b : Nat) : Nat :=
  Nat.lor (Nat.lor (Nat.land (rowsB a) (colsB b)) (Nat.land (rowsB (Nat.shiftRight a 1)) (colsB (Nat.shiftRight b 4))))
    (Nat.lor (Nat.land (rowsB (Nat.shiftRight a 2)) (colsB (Nat.shiftRight b 8))) (Nat.land (rowsB (Nat.shiftRight a 3)) (colsB (Nat.shiftRight b 12))))
theorem rowsB_bit (a : Nat) (i j : Nat) (hi : i < 4) (hj : j < 4) : (rowsB a).testBit (4 * i + j) = a.testBit (4 * i) := by
  have m : ∀ k, (Nat.land a 4369).testBit k = (a.testBit k && Nat.testBit 4369 k) := fun k => andT a 4369 k
  unfold rowsB
  simp only [orT, shlT, m]
  have hi : i = 0 ∨ i = 1 ∨ i = 2 ∨ i = 3 := by omega
  have hj : j = 0 ∨ j = 1 ∨ j = 2 ∨ j = 3 := by omega
  rcases hi with rfl | rfl | rfl | rfl <;> rcases hj with rfl | rfl | rfl | rfl <;> simp (decide := true) [Nat.testBit]
theorem colsB_bit (a : Nat) (i j : Nat) (hi : i < 4) (hj : j < 4) : (colsB a).testBit (4 * i + j) = a.testBit j := by
  have m : ∀ k, (Nat.land a 15).testBit k = (a.testBit k && Nat.testBit 15 k) := fun k => andT a 15 k
  unfold colsB
  simp only [orT, shlT, m]
  have hi : i = 0 ∨ i = 1 ∨ i = 2 ∨ i = 3 := by omega
  have hj : j = 0 ∨ j = 1 ∨ j = 2 ∨ j = 3 := by omega
  rcases hi with rfl | rfl | rfl | rfl <;> rcases hj with rfl | rfl | rfl | rfl <;> simp (decide := true) [Nat.testBit]
/-- c is the code of R -/
def Codes (c : Nat) (R : Nat → Nat → Bool) : Prop := ∀ i j, i < 4 → j < 4 → c.testBit (4 * i + j) = R i j
def compR (R S : Nat → Nat → Bool) : Nat → Nat → Bool := fun i j => (R i 0 && S 0 j || R i 1 && S 1 j) || (R i 2 && S 2 j || R i 3 && S 3 j)
theorem Codes.mul {a b : Nat} {R S : Nat → Nat → Bool} (h : Codes a R) (h2 : Codes b S) : Codes (mulB a b) (compR R S) := fun i j hi hj => by
  have r : ∀ k, k < 4 → (rowsB (Nat.shiftRight a k)).testBit (4 * i + j) = R i k := fun k hk => by
    rw [rowsB_bit _ i j hi hj, shrT, Nat.add_comm]; exact h i k hi hk
  have c : ∀ k, k < 4 → (colsB (Nat.shiftRight b (4 * k))).testBit (4 * i + j) = S k j := fun k hk => by
    rw [colsB_bit _ i j hi hj, shrT]; exact h2 k j hk hj
  have r0 : (rowsB a).testBit (4 * i + j) = R i 0 := r 0 (by decide)
  have c0 : (colsB b).testBit (4 * i + j) = S 0 j := c 0 (by decide)
  unfold mulB
  simp only [orT, andT]
  rw [r0, c0, r 1 (by decide), r 2 (by decide), r 3 (by decide), c 1 (by decide), c 2 (by decide), c 3 (by decide)]
  rfl
def codeB (f : Nat → Bool) : Nat → Nat
  | 0 => 0
  | k + 1 => if f k = true then 2 ^ k + codeB f k else codeB f k
theorem codeB_lt (f : Nat → Bool) : ∀ k, codeB f k < 2 ^ k
  | 0 => Nat.one_pos
  | k + 1 => by
    have := codeB_lt f k
    unfold codeB
    rw [Nat.pow_succ]
    split <;> omega
theorem codeB_bit (f : Nat → Bool) : ∀ k i, i < k → (codeB f k).testBit i = f i
  | k + 1, i, h => by
    have hl := codeB_lt f k
    unfold codeB
    by_cases e : i = k
    · subst e
      by_cases hf : f i = true
      · rw [if_pos hf, Nat.testBit_two_pow_add_eq, Nat.testBit_lt_two_pow hl, hf]; rfl
      · rw [if_neg hf, Nat.testBit_lt_two_pow hl]; simpa using hf
    · have hik : i < k := by omega
      by_cases hf : f k = true
      · rw [if_pos hf, Nat.testBit_two_pow_add_gt hik]; exact codeB_bit f k i hik
      · rw [if_neg hf]; exact codeB_bit f k i hik
def cdR (R : Nat → Nat → Bool) : Nat := codeB (fun k => R (k / 4) (k % 4)) 16
theorem codes_cd (R : Nat → Nat → Bool) : Codes (cdR R) R := fun i j hi hj => by
  unfold cdR
  rw [codeB_bit _ 16 (4 * i + j) (by omega), show (4 * i + j) / 4 = i by omega, show (4 * i + j) % 4 = j by omega]
def pw12 (c : Nat) : Nat := mulB (mulB (mulB (mulB c c) c) (mulB (mulB c c) c)) (mulB (mulB (mulB c c) c) (mulB (mulB c c) c))
def okB (c : Nat) : Bool := Nat.beq (mulB (pw12 c) (pw12 c)) (pw12 c)
def allB (p : Nat → Bool) : Nat → Nat → Bool
  | 0, c => p c
  | d + 1, c => allB p d (Nat.mul c 2) && allB p d (Nat.add (Nat.mul c 2) 1)
theorem allB_of (p : Nat → Bool) : ∀ d c, allB p d c = true → ∀ x, c * 2 ^ d ≤ x → x < (c + 1) * 2 ^ d → p x = true
  | 0, c, h, x, h1, h2 => by
    have : x = c := by omega
    subst this; exact h
  | d + 1, c, h, x, h1, h2 => by
    unfold allB at h
    rw [Bool.and_eq_true] at h
    have e : (2 : Nat) ^ (d + 1) = 2 * 2 ^ d := by rw [Nat.pow_succ, Nat.mul_comm]
    have e1 : c * 2 ^ (d + 1) = c * 2 * 2 ^ d := by rw [e, Nat.mul_assoc]
    have e2 : (c + 1) * 2 ^ (d + 1) = (c * 2 + 1 + 1) * 2 ^ d := by
      rw [e, ← Nat.mul_assoc]
      congr 1
      omega
    by_cases hx : x < (c * 2 + 1) * 2 ^ d
    · exact allB_of p d (c * 2) h.1 x (by omega) hx
    · exact allB_of p d (c * 2 + 1) h.2 x (by omega) (by omega)
theorem allB_12_0 : allB okB 12 0 = true := by decide +kernel
theorem allB_12_1 : allB okB 12 1 = true := by decide +kernel
theorem allB_12_2 : allB okB 12 2 = true := by decide +kernel
theorem allB_12_3 : allB okB 12 3 = true := by decide +kernel
theorem allB_12_4 : allB okB 12 4 = true := by decide +kernel
theorem allB_12_5 : allB okB 12 5 = true := by decide +kernel
theorem allB_12_6 : allB okB 12 6 = true := by decide +kernel
theorem allB_12_7 : allB okB 12 7 = true := by decide +kernel
theorem allB_12_8 : allB okB 12 8 = true := by decide +kernel
theorem allB_12_9 : allB okB 12 9 = true := by decide +kernel
theorem allB_12_10 : allB okB 12 10 = true := by decide +kernel
theorem allB_12_11 : allB okB 12 11 = true := by decide +kernel
theorem allB_12_12 : allB okB 12 12 = true := by decide +kernel
theorem allB_12_13 : allB okB 12 13 = true := by decide +kernel
theorem allB_12_14 : allB okB 12 14 = true := by decide +kernel
theorem allB_12_15 : allB okB 12 15 = true := by decide +kernel
theorem allB_16 (c : Nat) (h : c < 2 ^ 16) : okB c = true := by
  have h1 : c / 2 ^ 12 < 16 := by omega
  have key : ∀ p, p < 16 → allB okB 12 p = true := fun p hp => by
    match p, hp with
    | 0, _ => exact allB_12_0
    | 1, _ => exact allB_12_1
    | 2, _ => exact allB_12_2
    | 3, _ => exact allB_12_3
    | 4, _ => exact allB_12_4
    | 5, _ => exact allB_12_5
    | 6, _ => exact allB_12_6
    | 7, _ => exact allB_12_7
    | 8, _ => exact allB_12_8
    | 9, _ => exact allB_12_9
    | 10, _ => exact allB_12_10
    | 11, _ => exact allB_12_11
    | 12, _ => exact allB_12_12
    | 13, _ => exact allB_12_13
    | 14, _ => exact allB_12_14
    | 15, _ => exact allB_12_15
    | n + 16, h => exact absurd h (by omega)
  exact allB_of okB 12 (c / 2 ^ 12) (key _ h1) c (by omega) (by omega)
def pw12R (R : Nat → Nat → Bool) : Nat → Nat → Bool := compR (compR (compR (compR R R) R) (compR (compR R R) R)) (compR (compR (compR R R) R) (compR (compR R R) R))
/-- the twelfth power of a relation of four is idempotent -/
theorem pw12_R (R : Nat → Nat → Bool) {i j : Nat} (hi : i < 4) (hj : j < 4) : compR (pw12R R) (pw12R R) i j = pw12R R i j := by
  have h := codes_cd R
  have h12 : Codes (pw12 (cdR R)) (pw12R R) := ((h.mul h).mul h |>.mul ((h.mul h).mul h)).mul ((h.mul h).mul h |>.mul ((h.mul h).mul h))
  have ok : okB (cdR R) = true := allB_16 _ (codeB_lt _ 16)
  have e := Nat.eq_of_beq_eq_true ok
  rw [← (h12.mul h12) i j hi hj, e]
  exact h12 i j hi hj
/-- which entries lie below t -/
def thr (n : Nat) (t : Int) (m : Mx) : Nat → Nat → Bool := fun i j => decide (i < n) && decide (j < n) && decide (ent m i j < t)
theorem thr_mul {n : Nat} {a b : Mx} (h : IsM n a) (h2 : IsM n b) (t : Int) (i j : Nat) : thr n t (mulM n a b) i j = compR (thr n t a) (thr n t b) i j := by
  have h4 := h.le
  rw [Bool.eq_iff_iff]
  unfold compR thr
  simp only [Bool.and_eq_true, Bool.or_eq_true, decide_eq_true_eq]
  constructor
  · rintro ⟨⟨hi, hj⟩, hlt⟩
    have hn : ¬ t ≤ ent (mulM n a b) i j := by omega
    rw [le_ent_mul h h2 hi hj] at hn
    have ⟨r, hr⟩ := Classical.not_forall.mp hn
    have hr' : r < n ∧ ¬ (t ≤ ent a i r ∨ t ≤ ent b r j) := by
      constructor
      · exact Classical.byContradiction fun z => hr fun q => absurd q z
      · exact fun z => hr fun _ => z
    obtain ⟨hrn, hno⟩ := hr'
    have h1 : ent a i r < t := by omega
    have h2 : ent b r j < t := by omega
    have : r = 0 ∨ r = 1 ∨ r = 2 ∨ r = 3 := by omega
    rcases this with rfl | rfl | rfl | rfl
    · exact .inl (.inl ⟨⟨⟨hi, hrn⟩, h1⟩, ⟨hrn, hj⟩, h2⟩)
    · exact .inl (.inr ⟨⟨⟨hi, hrn⟩, h1⟩, ⟨hrn, hj⟩, h2⟩)
    · exact .inr (.inl ⟨⟨⟨hi, hrn⟩, h1⟩, ⟨hrn, hj⟩, h2⟩)
    · exact .inr (.inr ⟨⟨⟨hi, hrn⟩, h1⟩, ⟨hrn, hj⟩, h2⟩)
  · intro q
    have : ∃ r, r < n ∧ i < n ∧ j < n ∧ ent a i r < t ∧ ent b r j < t := by
      rcases q with (q | q) | (q | q)
      · exact ⟨0, q.1.1.2, q.1.1.1, q.2.1.2, q.1.2, q.2.2⟩
      · exact ⟨1, q.1.1.2, q.1.1.1, q.2.1.2, q.1.2, q.2.2⟩
      · exact ⟨2, q.1.1.2, q.1.1.1, q.2.1.2, q.1.2, q.2.2⟩
      · exact ⟨3, q.1.1.2, q.1.1.1, q.2.1.2, q.1.2, q.2.2⟩
    obtain ⟨r, hr, hi, hj, h1, h3⟩ := this
    refine ⟨⟨hi, hj⟩, ?_⟩
    by_cases c : ent (mulM n a b) i j < t
    · exact c
    · have := (le_ent_mul h h2 hi hj (x := t)).mp (by omega) r hr
      omega
theorem eq_of_thr {n : Nat} {a b : Mx} (h : IsM n a) (h2 : IsM n b) (e : ∀ t i j, i < 4 → j < 4 → thr n t a i j = thr n t b i j) : a = b := by
  have h4 := h.le
  refine ext_M h h2 fun i j hi hj => ?_
  have key : ∀ t, (ent a i j < t ↔ ent b i j < t) := fun t => by
    have := e t i j (by omega) (by omega)
    unfold thr at this
    rw [decide_eq_true hi, decide_eq_true hj] at this
    simpa using this
  have k1 := key (ent a i j)
  have k2 := key (ent b i j)
  omega
/-- m to the (k + 1)th -/
def pwM (n : Nat) (m : Mx) : Nat → Mx
  | 0 => m
  | k + 1 => mulM n (pwM n m k) m
theorem isM_pw {n : Nat} {m : Mx} (h : IsM n m) : ∀ k, IsM n (pwM n m k)
  | 0 => h
  | k + 1 => isM_mul (isM_pw h k) h
theorem pw_add {n : Nat} {m : Mx} (h : IsM n m) (a : Nat) : ∀ b, mulM n (pwM n m a) (pwM n m b) = pwM n m (a + b + 1)
  | 0 => rfl
  | b + 1 => by
    show mulM n (pwM n m a) (mulM n (pwM n m b) m) = mulM n (pwM n m (a + b + 1)) m
    rw [← mul_assoc_M (isM_pw h a) (isM_pw h b) h, pw_add h a b]
theorem pw_pw {n : Nat} {m : Mx} (h : IsM n m) (a : Nat) : ∀ b, pwM n (pwM n m a) b = pwM n m ((a + 1) * (b + 1) - 1)
  | 0 => by
    show pwM n m a = _
    rw [show (a + 1) * (0 + 1) - 1 = a by omega]
  | b + 1 => by
    show mulM n (pwM n (pwM n m a) b) (pwM n m a) = _
    rw [pw_pw h a b, pw_add h]
    congr 1
    have : (a + 1) * (b + 1 + 1) = (a + 1) * (b + 1) + (a + 1) := Nat.mul_succ _ _
    have h1 : 1 ≤ (a + 1) * (b + 1) := Nat.mul_pos (Nat.succ_pos _) (Nat.succ_pos _)
    omega
def Idem (n : Nat) (m : Mx) : Prop := mulM n m m = m
theorem pw12_idem {n : Nat} {m : Mx} (h : IsM n m) : Idem n (pwM n m 11) := by
  have e11 : pwM n m 11 = mulM n (mulM n (mulM n (mulM n m m) m) (mulM n (mulM n m m) m)) (mulM n (mulM n (mulM n m m) m) (mulM n (mulM n m m) m)) := by
    have e2 : mulM n (mulM n m m) m = pwM n m 2 := rfl
    rw [e2, pw_add h, pw_add h]
  have hM2 := isM_mul h h
  have hM3 := isM_mul hM2 h
  have hM6 := isM_mul hM3 hM3
  have hM12 := isM_mul hM6 hM6
  have c3 : ∀ t, thr n t (mulM n (mulM n m m) m) = compR (compR (thr n t m) (thr n t m)) (thr n t m) := fun t => by
    funext i j
    rw [thr_mul hM2 h, show thr n t (mulM n m m) = compR (thr n t m) (thr n t m) from by funext i j; exact thr_mul h h t i j]
  have c12 : ∀ t, thr n t (pwM n m 11) = pw12R (thr n t m) := fun t => by
    funext i j
    rw [e11, thr_mul hM6 hM6, show thr n t (mulM n (mulM n (mulM n m m) m) (mulM n (mulM n m m) m)) = compR (compR (compR (thr n t m) (thr n t m)) (thr n t m)) (compR (compR (thr n t m) (thr n t m)) (thr n t m)) from by funext i j; rw [thr_mul hM3 hM3, c3]]
    rfl
  refine eq_of_thr (isM_mul (isM_pw h 11) (isM_pw h 11)) (isM_pw h 11) fun t i j hi hj => ?_
  rw [thr_mul (isM_pw h 11) (isM_pw h 11), c12]
  exact pw12_R _ hi hj
theorem pw_idem {n : Nat} {m : Mx} (h : Idem n m) : ∀ k, pwM n m k = m
  | 0 => rfl
  | k + 1 => by
    show mulM n (pwM n m k) m = m
    rw [pw_idem h k]; exact h
/-- one power alone is idempotent -/
theorem idem_unique {n : Nat} {m : Mx} (h : IsM n m) {a b : Nat} (ha : Idem n (pwM n m a)) (hb : Idem n (pwM n m b)) : pwM n m a = pwM n m b := by
  rw [← pw_idem ha b, ← pw_idem hb a, pw_pw h a b, pw_pw h b a, Nat.mul_comm]
/-- e + 1 is the least exponent whose power is idempotent -/
structure Least (n : Nat) (m : Mx) (e : Nat) : Prop where
  le : e ≤ 11
  idem : Idem n (pwM n m e)
  no : ∀ i, i < e → ¬ Idem n (pwM n m i)
theorem least_of {n : Nat} {m : Mx} : ∀ f j, (∃ k, j ≤ k ∧ k ≤ j + f ∧ Idem n (pwM n m k)) → ∃ e, j ≤ e ∧ e ≤ j + f ∧ Idem n (pwM n m e) ∧ ∀ i, j ≤ i → i < e → ¬ Idem n (pwM n m i)
  | 0, j, ⟨k, h1, h2, h3⟩ => by
    have : k = j := by omega
    subst this
    exact ⟨k, Nat.le_refl _, Nat.le_refl _, h3, fun i hi hlt => absurd hlt (by omega)⟩
  | f + 1, j, ⟨k, h1, h2, h3⟩ => by
    by_cases c : Idem n (pwM n m j)
    · exact ⟨j, Nat.le_refl _, by omega, c, fun i hi hlt => absurd hlt (by omega)⟩
    · have hk : j ≠ k := fun z => c (z ▸ h3)
      obtain ⟨e, a1, a2, a3, a4⟩ := least_of f (j + 1) ⟨k, by omega, by omega, h3⟩
      refine ⟨e, by omega, by omega, a3, fun i hi hlt => ?_⟩
      by_cases z : i = j
      · rw [z]; exact c
      · exact a4 i (by omega) hlt
theorem least_ex {n : Nat} {m : Mx} (h : IsM n m) : ∃ e, Least n m e := by
  obtain ⟨e, _, a2, a3, a4⟩ := least_of (n := n) (m := m) 11 0 ⟨11, by omega, by omega, pw12_idem h⟩
  exact ⟨e, by omega, a3, fun i hi => a4 i (by omega) hi⟩
theorem Least.zero {n : Nat} {m : Mx} {e : Nat} (h : Least n m e) (hi : Idem n m) : e = 0 := by
  by_cases c : e = 0
  · exact c
  · exact absurd hi (h.no 0 (by omega))
/-! ## idempotents in the text -/
theorem gEq_mx {a b : Mx} [Decidable (a = b)] : gEq (mxD a) (mxD b) = some (.bool (decide (a = b))) := by
  rw [mxD_dat, mxD_dat, gEq_dat (by decide)]
  congr 2
  refine decide_eq_decide.mpr ⟨fun h => ?_, fun h => by rw [h]⟩
  have h1 : a.map PySem.W.Tup.mk = b.map PySem.W.Tup.mk := congrArg PySem.W.Tup.items h
  have inj : ∀ x y : List Int, PySem.W.Tup.mk x = PySem.W.Tup.mk y → x = y := fun x y e => congrArg PySem.W.Tup.items e
  have : ∀ (l k : Mx), l.map PySem.W.Tup.mk = k.map PySem.W.Tup.mk → l = k := fun l => by
    induction l with
    | nil => intro k e; cases k with
      | nil => rfl
      | cons _ _ => cases e
    | cons x l ih => intro k e; cases k with
      | nil => cases e
      | cons y k =>
        simp only [List.map_cons, List.cons.injEq] at e
        rw [inj _ _ e.1, ih k e.2]
  exact this a b h1
open Classical in
noncomputable def idemB (n : Nat) (m : Mx) : Bool := decide (Idem n m)
theorem idem_in_m {n : Nat} {m : Mx} (h : IsM n m) (s : Dk) : m_is_idempotent_in [.va (mxD m)] s = .ok (.bool (idemB n m)) s := by
  classical
  exact mBody_rt rfl (sRet_ok (fBin_ok (fCall_ok (fConsA_ok (fVar_ok rfl) (fConsA_ok (fVar_ok rfl) fNil_ok)) (product_in_m h h s)) (fVar_ok rfl) (gEq_mx.trans (by unfold idemB Idem; congr 3))))
theorem law_idem_m {n : Nat} {m : Mx} (h : IsM n m) (s : Dk) : m__law_is_idempotent [.va (mxD m)] s = .ok (.bool (idemB n m)) s := by
  classical
  exact mBody_rt rfl (sRet_ok (fBin_ok (fCall_ok (fConsA_ok (fVar_ok rfl) (fConsA_ok (fVar_ok rfl) fNil_ok)) (times_m h h s)) (fVar_ok rfl) (by rw [times_eq h h]; exact gEq_mx.trans (by unfold idemB Idem; congr 3))))
theorem idemB_t {n : Nat} {m : Mx} (h : Idem n m) : idemB n m = true := by
  classical
  exact decide_eq_true h
theorem idemB_f {n : Nat} {m : Mx} (h : ¬ Idem n m) : idemB n m = false := by
  classical
  exact decide_eq_false h
theorem upto_rg (a b : Nat) (h : a ≤ b) : (List.range ((b : Int) - a).toNat).map (fun (i : Nat) => PyData.int ((a : Int) + i)) = ((List.range (b - a)).map fun i => ((a + i : Nat) : Int)).map PyData.int := by
  rw [show ((b : Int) - a).toNat = b - a by omega, List.map_map]
  exact List.map_congr_left fun i _ => by simp
/-- the law's search -/
def bodyP : SemS := sSeq (sIf (fTest (fCall m__law_is_idempotent (fConsA (fVar 1) fNil))) (sRet (fTup (fCons (fVar 2) (fCons (fVar 1) fNil)))) sNil) (sAsg (fCall m__law_times (fConsA (fVar 1) (fConsA (fVar 0) fNil))) (gVar 1))
theorem bodyP_end {n : Nat} {m p : Mx} (h : IsM n p) (hi : Idem n p) (k : Int) (s : Dk) : bodyP [.va (mxD m), .va (mxD p), .va (.int k)] s = .rt (.tuple [.int k, mxD p]) s :=
  sSeq_rt (sIf_T (fTest_ok (fCall_ok (fConsA_ok (fVar_ok rfl) fNil_ok) ((law_idem_m h s).trans (by rw [idemB_t hi])))) (sRet_ok (fTup_ok (fCons_ok (fVar_ok rfl) (fCons_ok (fVar_ok rfl) fNil_ok)) (Nat.le_of_ble_eq_true rfl))))
theorem bodyP_on {n : Nat} {m p : Mx} (hm : IsM n m) (h : IsM n p) (hi : ¬ Idem n p) (k : Int) (s : Dk) : bodyP [.va (mxD m), .va (mxD p), .va (.int k)] s = .nx [.va (mxD m), .va (mxD (mulM n p m)), .va (.int k)] s := by
  refine sSeq_nx (s1 := s) (sIf_F (fTest_ok (fCall_ok (fConsA_ok (fVar_ok rfl) fNil_ok) ((law_idem_m h s).trans (by rw [idemB_f hi])))) rfl) (sAsg_ok (d := mxD (mulM n p m)) (fCall_ok (fConsA_ok (fVar_ok rfl) (fConsA_ok (fVar_ok rfl) fNil_ok)) ((times_m h hm s).trans (by rw [times_eq h hm]))) rfl)
theorem power_loop {n : Nat} {m : Mx} {e : Nat} (h : IsM n m) (le : Least n m e) (s : Dk) : ∀ (d j : Nat) (x2 : SV) (rest : List D), j + d = e →
    forL (gVar 2) bodyP (((List.range (d + 1)).map fun i => PyData.int ((j + i + 1 : Nat) : Int)) ++ rest) [.va (mxD m), .va (mxD (pwM n m j)), x2] s = .rt (.tuple [.int ((e + 1 : Nat) : Int), mxD (pwM n m (e))]) s := by
  obtain ⟨_, e1, e2⟩ := le
  intro d
  induction d with
  | zero =>
    intro j x2 rest hj
    have hj : j = e := by omega
    rw [hj, List.range_succ_eq_map, List.range_zero, List.map_nil, List.map_cons, List.map_nil, List.cons_append]
    exact forL_rt rfl (bodyP_end (m := m) (isM_pw h e) e1 ((e + 0 + 1 : Nat) : Int) s)
  | succ d ih =>
    intro j x2 rest hj
    have hlt : j < e := by omega
    have el : ((List.range (d + 1 + 1)).map fun i => PyData.int ((j + i + 1 : Nat) : Int)) ++ rest = PyData.int ((j + 0 + 1 : Nat) : Int) :: (((List.range (d + 1)).map fun i => PyData.int ((j + 1 + i + 1 : Nat) : Int)) ++ rest) := by
      rw [List.range_succ_eq_map, List.map_cons, List.map_map, List.cons_append]
      congr 2
      refine List.map_congr_left fun i _ => ?_
      show PyData.int ((j + (i + 1) + 1 : Nat) : Int) = _
      congr 2
      omega
    rw [el]
    exact (forL_nx rfl (bodyP_on h (isM_pw h j) (e2 j hlt) ((j + 0 + 1 : Nat) : Int) s)).trans (ih (j + 1) _ rest (by omega))
theorem fRange2_ok {ρ : En} {s s1 : Dk} {fl : Sem1 (List D)} {a b : Int} (ha : fl ρ s = .ok [.int a, .int b] s1) (h1 : intOk a = true) (h2 : intOk b = true) : fRange2 fl ρ s = .ok ((List.range (b - a).toNat).map fun (i : Nat) => PyData.int (a + i)) s1 := by
  unfold fRange2
  rw [ha, Res.bind_ok]
  simp only [h1, h2, Bool.and_self, if_true]
theorem law_power_m {n : Nat} {m : Mx} {e : Nat} (h : IsM n m) (le : Least n m e) (s : Dk) : m__law_power [.va (mxD m)] s = .ok (.tuple [.int ((e + 1 : Nat) : Int), mxD (pwM n m (e))]) s := by
  have he := le.le
  refine mBody_rt rfl (sSeq_nx (s1 := s) (ρ' := [.va (mxD m), .va (mxD m), .un]) (sAsg_ok (fVar_ok rfl) rfl) (sSeq_rt (sFor_ok (s1 := s) (ds := ((List.range (e + 1)).map fun i => PyData.int ((0 + i + 1 : Nat) : Int)) ++ ((List.range (298 - e)).map fun i => PyData.int ((e + 2 + i : Nat) : Int))) ?_ (power_loop h le s (e) 0 _ _ (by omega)))))
  refine (fRange2_ok (a := 1) (b := 300) (s1 := s) (fCons_ok fC_e (fCons_ok fC_e fNil_ok)) (by decide) (by decide)).trans ?_
  rw [show ((300 : Int) - 1).toNat = (e + 1) + (298 - e) by omega, List.range_add, List.map_append, List.map_map]
  congr 2
  · exact List.map_congr_left fun i _ => by congr 1; omega
  · refine List.map_congr_left fun i _ => ?_
    show PyData.int (1 + ((e + 1 + i : Nat) : Int)) = PyData.int ((e + 2 + i : Nat) : Int)
    congr 1
    omega
/-- the program's search -/
theorem while_loop {n : Nat} {m : Mx} {e : Nat} (h : IsM n m) (le : Least n m e) (s : Dk) : ∀ (d j f : Nat), j + d = e → d < f → whL (fNotT (fTest (fCall m_is_idempotent_in (fConsA (fVar 2) fNil)))) (sPar 1 2 (fConsA (fBin gAdd (fVar 1) (fC (.int 1))) (fConsA (fCall m_product_in (fConsA (fVar 2) (fConsA (fVar 0) fNil))) fNil))) f [.va (mxD m), .va (.int ((j + 1 : Nat) : Int)), .va (mxD (pwM n m j))] s = .nx [.va (mxD m), .va (.int ((e + 1 : Nat) : Int)), .va (mxD (pwM n m (e)))] s := by
  obtain ⟨_, e1, e2⟩ := le
  intro d
  induction d with
  | zero =>
    intro j f hj hf
    have : j = e := by omega
    subst this
    cases f with
    | zero => omega
    | succ f =>
      exact whL_stop (fNotT_ok (b := true) (s1 := s) (fTest_ok (fCall_ok (fConsA_ok (fVar_ok rfl) fNil_ok) ((idem_in_m (isM_pw h _) s).trans (by rw [idemB_t e1])))))
  | succ d ih =>
    intro j f hj hf
    have hlt : j < e := by omega
    cases f with
    | zero => omega
    | succ f =>
      have st : sPar 1 2 (fConsA (fBin gAdd (fVar 1) (fC (.int 1))) (fConsA (fCall m_product_in (fConsA (fVar 2) (fConsA (fVar 0) fNil))) fNil)) [.va (mxD m), .va (.int ((j + 1 : Nat) : Int)), .va (mxD (pwM n m j))] s = .nx [.va (mxD m), .va (.int ((j + 1 + 1 : Nat) : Int)), .va (mxD (pwM n m (j + 1)))] s :=
        sPar_ok (s1 := s) (fConsA_ok (fBin_ok (fVar_ok rfl) fC_e gAdd_i) (fConsA_ok (fCall_ok (fConsA_ok (fVar_ok rfl) (fConsA_ok (fVar_ok rfl) fNil_ok)) (product_in_m (isM_pw h j) h s)) fNil_ok))
      exact (whL_step (fNotT_ok (b := false) (s1 := s) (fTest_ok (fCall_ok (fConsA_ok (fVar_ok rfl) fNil_ok) ((idem_in_m (isM_pw h _) s).trans (by rw [idemB_f (e2 j hlt)]))))) st).trans (ih (j + 1) f (by omega) (by omega))
theorem is_idempotent_m {n : Nat} {m : Mx} (h : IsM n m) (s : Dk) : m_is_idempotent [.va (mxD m)] s = .ok (.bool (idemB n m)) s :=
  mBody_rt rfl (sSeq_nx (s1 := s) (sExpr_ok (fCall_ok (fConsA_ok (fVar_ok rfl) fNil_ok) (need_matrix_m h s))) (sRet_ok (fCall_ok (fConsA_ok (fVar_ok rfl) fNil_ok) (idem_in_m h s))))
/-! ## stabilised -/
theorem sApp_ok {i : Nat} {fe : Sem1 D} {ρ : En} {s s1 : Dk} {x : D} {ds : List D} (h1 : ρ[i]? = some (.ow (.lst ds))) (h : fe ρ s = .ok x s1) (hl : ds.length + 1 ≤ 1000000) : sApp i fe ρ s = .nx (ρ.set i (.ow (.lst (ds ++ [x])))) s1 := by
  show (match ρ[i]? with
  | some (.ow (.lst ds)) => (fe ρ s).bindS ρ fun d s1 => if lineOk (ds.length + 1) = true then RS.nx (ρ.set i (.ow (.lst (ds ++ [d])))) s1 else .bad
  | _ => .bad) = _
  rw [h1]
  show (fe ρ s).bindS ρ _ = _
  rw [h]
  show (if lineOk (ds.length + 1) = true then RS.nx (ρ.set i (.ow (.lst (ds ++ [x])))) s1 else .bad) = _
  rw [if_pos (lineOk_t hl)]
def fV (x : Int) : Int := if x = 0 ∨ x = 3 then x else 2
def stay (n : Nat) (m : Mx) : List Int := (upto n).map fun r => fV ((m.getD r.toNat []).getD r.toNat 0)
theorem gIn_03 (v : Int) : gIn (.int v) (.tuple [.int 0, .int 3]) = some (.bool (decide (v = 0) || decide (v = 3))) := by
  have u : gIn (.int v) (.tuple [.int 0, .int 3]) = some (.bool (PyData.eqv (.int 0) (.int v) || (PyData.eqv (.int 3) (.int v) || false))) := by
    show (if (PyData.plain (.int v) && PyData.plainAll [.int 0, .int 3] && decide (min (PyData.depthAll [.int 0, .int 3]) (PyData.depth (.int v)) ≤ 60)) = true then some (PyData.bool ([PyData.int 0, .int 3].any fun y => PyData.eqv y (.int v))) else none) = _
    exact (if_pos (by simp [PyData.plain, PyData.plainAll, PyData.depthAll, PyData.depth])).trans rfl
  rw [u]
  have e : ∀ a b : Int, PyData.eqv (.int a) (.int b) = decide (a = b) := fun a b => PySem.W.Datum.eqv (α := Int) a b
  rw [e, e, Bool.or_false]
  congr 2
  rw [show decide ((0 : Int) = v) = decide (v = 0) from decide_eq_decide.mpr eq_comm, show decide ((3 : Int) = v) = decide (v = 3) from decide_eq_decide.mpr eq_comm]
theorem staying_m {n : Nat} {m : Mx} (h : IsM n m) (s : Dk) : m_staying_values [.va (mxD m)] s = .ok (lstD (stay n m)) s := by
  have h4 := h.le
  refine mBody_rt rfl (sSeq_nx (s1 := s) (ρ' := [.va (mxD m), .va (lstD ((upto n).map fun r => (m.getD r.toNat []).getD r.toNat 0)), .un, .un]) (sAsg_ok (fLst_ok ?_) rfl) (sRet_ok (fLst_ok ?_)))
  · rw [List.map_map]
    refine fLc_map (δ := PyData.int) (fRange1_ok (fCons_ok (fCB_ok (fCons_ok (fVar_ok rfl) fNil_ok) (z := .int n) ?_) fNil_ok) (by omega)) (by rw [upto_len]; omega) fun r hr => ⟨_, rfl, rfl, ?_⟩
    · show some (PyData.int (m.map rowD).length) = _
      rw [List.length_map, h.len]
    · have hr := mem_upto.mp hr
      have r2 := h.row _ (row_mem h (j := r.toNat) (by omega))
      exact fBin_ok (fBin_ok (fVar_ok rfl) (fVar_ok (d := .int r) rfl) (ix_mx hr.1 (by rw [h.len]; exact hr.2))) (fVar_ok (d := .int r) rfl) (ix_row hr.1 (by rw [r2]; exact hr.2))
  · unfold stay
    rw [show ((upto n).map fun r => fV ((m.getD r.toNat []).getD r.toNat 0)) = ((upto n).map fun r => (m.getD r.toNat []).getD r.toNat 0).map fV from by rw [List.map_map]; rfl, List.map_map]
    refine fLc_map (δ := PyData.int) (fItems_ok (fVar_ok rfl) rfl) (by rw [List.length_map, upto_len]; omega) fun v hv => ⟨_, rfl, rfl, ?_⟩
    refine fIf_ok (b := decide (v = 0) || decide (v = 3)) (fTest_ok (fBin_ok (fVar_ok (d := .int v) rfl) (fTup_ok (fCons_ok fC_e (fCons_ok fC_e fNil_ok)) (Nat.le_of_ble_eq_true rfl)) (gIn_03 v))) ?_
    by_cases c : v = 0 ∨ v = 3
    · rw [if_pos (by simpa using c), Function.comp, show fV v = v from if_pos c]; exact fVar_ok (d := .int v) rfl
    · rw [if_neg (by simpa using c), Function.comp, show fV v = 2 from if_neg c]; rfl
def stabRow (n : Nat) (m : Mx) (row : List Int) : List Int := (colsOf n m).map fun col => minL (List.zipWith max (List.zipWith max row (stay n m)) col)
def stabM (n : Nat) (m : Mx) : Mx := m.map (stabRow n m)
theorem begun_e {n : Nat} {ρ : En} {s : Dk} {row vs : List Int} (h4 : ρ[4]? = some (.va (rowD row))) (h1 : ρ[1]? = some (.va (lstD vs))) (hl : ρ.length = 9) (hr : row.length ≤ 4) : fLst (fLc (fZip (fCons (fVar 4) (fCons (fVar 1) fNil))) (gTupD 2 (gsCons (gVar 6) (gsCons (gVar 7) gsNil))) fYes (fCB gMax (fCons (fVar 6) (fCons (fVar 7) fNil))) [6, 7]) ρ s = .ok (lstD (List.zipWith max row vs)) s := by
  refine fLst_ok ?_
  rw [zw_zip, List.map_map]
  refine fLc_map (δ := fun p : Int × Int => PyData.tuple [.int p.1, .int p.2]) ((fZip_ok (fCons_ok (fVar_ok h4) (fCons_ok (fVar_ok h1) fNil_ok)) rfl rfl).trans (by rw [zipD_map])) (by rw [List.length_zip]; omega) fun p _ => ⟨((wipeE ρ [6, 7]).set 6 (.va (.int p.1))).set 7 (.va (.int p.2)), rfl, rfl, ?_⟩
  refine fCB_ok (fCons_ok (fVar_ok (d := .int p.1) ?_) (fCons_ok (fVar_ok (d := .int p.2) ?_) fNil_ok)) rfl
  · rw [List.getElem?_set_ne (by decide), List.getElem?_set_self (by simp [hl])]
  · rw [List.getElem?_set_self (by simp [hl])]
theorem stab_row_len {n : Nat} {m : Mx} (h : IsM n m) {row : List Int} (hr : row ∈ m) : (List.zipWith max row (stay n m)).length = n := by
  rw [List.length_zipWith, h.row _ hr]
  unfold stay
  rw [List.length_map, upto_len]; omega
theorem stab_loop {n : Nat} {m : Mx} (h : IsM n m) (s : Dk) (f : SemS) (hf : f = sSeq (sAsg (fLst (fLc (fZip (fCons (fVar 4) (fCons (fVar 1) fNil))) (gTupD 2 (gsCons (gVar 6) (gsCons (gVar 7) gsNil))) fYes (fCB gMax (fCons (fVar 6) (fCons (fVar 7) fNil))) [6, 7])) (gVar 5)) (sApp 3 (fCB gTuple (fCons (fLst (fLc (fItems (fVar 2)) (gVar 8) fYes (fCall m_product_entry (fConsA (fVar 5) (fConsA (fVar 8) fNil))) [8])) fNil)))) :
    ∀ (rows : List (List Int)) (acc : Mx) (x4 x5 : SV), (∀ r ∈ rows, r ∈ m) → acc.length + rows.length ≤ 4 → ∃ y4 y5, forL (gVar 4) f (rows.map rowD) [.va (mxD m), .va (lstD (stay n m)), .va (.list ((colsOf n m).map lstD)), .ow (.lst (acc.map rowD)), x4, x5, .un, .un, .un] s =
      .nx [.va (mxD m), .va (lstD (stay n m)), .va (.list ((colsOf n m).map lstD)), .ow (.lst ((acc ++ rows.map (stabRow n m)).map rowD)), y4, y5, .un, .un, .un] s := by
  subst hf
  have h4 := h.le
  have hp := h.pos
  intro rows
  induction rows with
  | nil =>
    intro acc x4 x5 _ _
    refine ⟨x4, x5, ?_⟩
    rw [List.map_nil, List.map_nil, List.append_nil]; rfl
  | cons r rows ih =>
    intro acc x4 x5 hr hl
    have hrm := hr r List.mem_cons_self
    have hrl := h.row r hrm
    have hzl := stab_row_len h hrm
    rw [List.length_cons] at hl
    obtain ⟨y4, y5, e⟩ := ih (acc ++ [stabRow n m r]) (.va (rowD r)) (.va (lstD (List.zipWith max r (stay n m)))) (fun q hq => hr q (List.mem_cons_of_mem _ hq)) (by rw [List.length_append, List.length_singleton]; omega)
    refine ⟨y4, y5, ?_⟩
    rw [List.map_cons]
    refine (forL_nx (ρ2 := [.va (mxD m), .va (lstD (stay n m)), .va (.list ((colsOf n m).map lstD)), .ow (.lst ((acc ++ [stabRow n m r]).map rowD)), .va (rowD r), .va (lstD (List.zipWith max r (stay n m))), .un, .un, .un]) (s2 := s) rfl ?_).trans ?_
    · refine sSeq_nx (s1 := s) (ρ' := [.va (mxD m), .va (lstD (stay n m)), .va (.list ((colsOf n m).map lstD)), .ow (.lst (acc.map rowD)), .va (rowD r), .va (lstD (List.zipWith max r (stay n m))), .un, .un, .un]) (sAsg_ok (begun_e (n := n) rfl rfl rfl (by omega)) rfl) ?_
      refine (sApp_ok (x := rowD (stabRow n m r)) (s1 := s) rfl (fCB_ok (fCons_ok (fLst_ok (xs := (stabRow n m r).map .int) ?_) fNil_ok) rfl) (by rw [List.length_map]; omega)).trans ?_
      · unfold stabRow
        rw [List.map_map]
        refine fLc_map (δ := lstD) (fItems_ok (fVar_ok rfl) rfl) (by unfold colsOf; rw [List.length_map, upto_len]; omega) fun c hc => ⟨_, rfl, rfl, ?_⟩
        obtain ⟨j, _, rfl⟩ := List.mem_map.mp hc
        have hcl : (colOf m j.toNat).length = n := by unfold colOf; rw [List.length_map, h.len]
        refine fCall_ok (fConsA_ok (fVar_ok (d := lstD (List.zipWith max r (stay n m))) rfl) (fConsA_ok (fVar_ok (d := lstD (colOf m j.toNat)) rfl) fNil_ok)) (product_entry_l (by omega) (by omega) ?_ s)
        intro z
        rw [z] at hzl
        simp at hzl; omega
      · rw [List.map_append]; rfl
    · rw [e, List.append_assoc]; rfl
theorem stabilised_in_m {n : Nat} {m : Mx} (h : IsM n m) (s : Dk) : m_stabilised_in [.va (mxD m)] s = .ok (mxD (stabM n m)) s := by
  have h4 := h.le
  obtain ⟨y4, y5, e⟩ := stab_loop h s _ rfl m [] .un .un (fun _ h => h) (by rw [h.len]; simp; exact h4)
  refine mBody_rt rfl (sSeq_nx (s1 := s) (ρ' := [.va (mxD m), .va (lstD (stay n m)), .va (.list ((colsOf n m).map lstD)), .ow (.lst []), .un, .un, .un, .un, .un]) ?_ (sSeq_nx (s1 := s) (sFor_ok (s1 := s) (ds := m.map rowD) (fItems_ok (fVar_ok rfl) rfl) e) (sRet_ok (fCB_ok (fCons_ok (fVar_ok (d := .list ((stabM n m).map rowD)) rfl) fNil_ok) rfl))))
  have em : (fMD (fCall m_staying_values (fConsA (fVar 0) fNil)) (fMD (fCall m_columns_of (fConsA (fVar 0) fNil)) (fMO (fLine fNil) fNil))) [.va (mxD m), .un, .un, .un, .un, .un, .un, .un, .un] s = .ok [.d (lstD (stay n m)), .d (.list ((colsOf n m).map lstD)), .o []] s := by
    unfold fMD fMO
    rw [fCall_ok (fConsA_ok (fVar_ok rfl) fNil_ok) (staying_m h s), Res.bind_ok, fCall_ok (fConsA_ok (fVar_ok rfl) fNil_ok) (columns_of_m h s)]
    rfl
  show (fMD _ _ [.va (mxD m), .un, .un, .un, .un, .un, .un, .un, .un] s).bindS _ _ = _
  rw [em]; rfl
/-! ## stabilised: the mathematics -/
theorem stabilised_m {n : Nat} {m : Mx} (h : IsM n m) (hi : Idem n m) (s : Dk) : m_stabilised [.va (mxD m)] s = .ok (mxD (stabM n m)) s :=
  mBody_rt rfl (sSeq_nx (s1 := s) (sExpr_ok (fCall_ok (fConsA_ok (fVar_ok rfl) fNil_ok) (need_matrix_m h s))) (sSeq_nx (s1 := s) (sIf_F (fNotT_ok (b := true) (fTest_ok (fCall_ok (fConsA_ok (fVar_ok rfl) fNil_ok) ((idem_in_m h s).trans (by rw [idemB_t hi]))))) rfl) (sRet_ok (fCall_ok (fConsA_ok (fVar_ok rfl) fNil_ok) (stabilised_in_m h s)))))
theorem getD_some {l : List Int} {r : Nat} (h : r < l.length) : l[r]? = some (l.getD r 0) := by
  rw [List.getD_eq_getElem?_getD, List.getElem?_eq_getElem h]; rfl
theorem le_minzw {n : Nat} {a b : List Int} (ha : a.length = n) (hb : b.length = n) (hn : 1 ≤ n) {x : Int} : x ≤ minL (List.zipWith max a b) ↔ ∀ r, r < n → x ≤ a.getD r 0 ∨ x ≤ b.getD r 0 := by
  have hz : (List.zipWith max a b).length = n := by rw [List.length_zipWith]; omega
  rw [le_minL (by intro z; rw [z] at hz; simp at hz; omega)]
  have key : ∀ r, r < n → (List.zipWith max a b)[r]? = some (max (a.getD r 0) (b.getD r 0)) := fun r hr => by
    rw [List.getElem?_zipWith, getD_some (by omega), getD_some (by omega)]
  constructor
  · intro hall r hr
    have := hall _ (List.mem_of_getElem? (key r hr))
    omega
  · intro hall z hz'
    obtain ⟨r, hrl, e⟩ := List.mem_iff_getElem.mp hz'
    have hr : r < n := by rw [← hz]; exact hrl
    have k := key r hr
    rw [List.getElem?_eq_getElem hrl, e] at k
    have k := Option.some.inj k
    have := hall r hr
    omega
theorem getD_zw {a b : List Int} {r : Nat} (ha : r < a.length) (hb : r < b.length) : (List.zipWith max a b).getD r 0 = max (a.getD r 0) (b.getD r 0) := by
  rw [List.getD_eq_getElem?_getD, List.getElem?_zipWith, getD_some ha, getD_some hb]; rfl
theorem ent_stab {n : Nat} {m : Mx} (h : IsM n m) {p q : Nat} (hp : p < n) (hq : q < n) : ent (stabM n m) p q = minL (List.zipWith max (List.zipWith max (m.getD p []) (stay n m)) (colOf m q)) := by
  unfold ent stabM
  rw [getD_map (d := []) (by rw [h.len]; exact hp)]
  unfold stabRow colsOf
  rw [List.map_map, getD_upto hq]
  rfl
theorem stay_get {n : Nat} {m : Mx} {r : Nat} (hr : r < n) : (stay n m).getD r 0 = fV (ent m r r) := by
  unfold stay
  rw [getD_upto hr]; rfl
theorem stay_len (n : Nat) (m : Mx) : (stay n m).length = n := by unfold stay; rw [List.length_map, upto_len]
theorem col_len {n : Nat} {m : Mx} (h : IsM n m) (j : Nat) : (colOf m j).length = n := by unfold colOf; rw [List.length_map, h.len]
theorem col_get {n : Nat} {m : Mx} (h : IsM n m) {r j : Nat} (hr : r < n) : (colOf m j).getD r 0 = ent m r j := by
  unfold colOf
  rw [getD_map (d := []) (by rw [h.len]; exact hr)]; rfl
theorem le_ent_stab {n : Nat} {m : Mx} (h : IsM n m) {p q : Nat} (hp : p < n) (hq : q < n) {x : Int} : x ≤ ent (stabM n m) p q ↔ ∀ r, r < n → x ≤ ent m p r ∨ x ≤ fV (ent m r r) ∨ x ≤ ent m r q := by
  rw [ent_stab h hp hq, le_minzw (n := n) (stab_row_len h (row_mem h hp)) (col_len h q) h.pos]
  have rl := h.row _ (row_mem h hp)
  have key : ∀ r, r < n → ((x ≤ (List.zipWith max (m.getD p []) (stay n m)).getD r 0 ∨ x ≤ (colOf m q).getD r 0) ↔ (x ≤ ent m p r ∨ x ≤ fV (ent m r r) ∨ x ≤ ent m r q)) := fun r hr => by
    rw [getD_zw (by omega) (by rw [stay_len]; exact hr), stay_get hr, col_get h hr]
    show (x ≤ max (ent m p r) _ ∨ _) ↔ _
    omega
  exact ⟨fun a r hr => (key r hr).mp (a r hr), fun a r hr => (key r hr).mpr (a r hr)⟩
theorem fV_val {v : Int} (h : 0 ≤ v ∧ v ≤ 3) : 0 ≤ fV v ∧ fV v ≤ 3 ∧ (fV v < 1 ↔ v < 1) ∧ (fV v < 3 ↔ v < 3) ∧ (fV v < 2 ↔ v < 1) := by
  unfold fV
  by_cases c : v = 0 ∨ v = 3
  · rw [if_pos c]; omega
  · rw [if_neg c]; omega
theorem isM_stab {n : Nat} {m : Mx} (h : IsM n m) : IsM n (stabM n m) := by
  refine ⟨by unfold stabM; rw [List.length_map, h.len], fun r hr => ?_, fun r hr x hx => ?_, h.pos, h.le⟩
  · obtain ⟨r0, _, rfl⟩ := List.mem_map.mp hr
    unfold stabRow colsOf
    rw [List.length_map, List.length_map, upto_len]
  · obtain ⟨r0, hr0, rfl⟩ := List.mem_map.mp hr
    obtain ⟨c, hc, rfl⟩ := List.mem_map.mp hx
    unfold colsOf at hc
    obtain ⟨j, hj, rfl⟩ := List.mem_map.mp hc
    have hj := mem_upto.mp hj
    have hl0 := stab_row_len h hr0
    have hl1 := col_len h j.toNat
    have hl : (List.zipWith max (List.zipWith max r0 (stay n m)) (colOf m j.toNat)).length = n := by rw [List.length_zipWith]; omega
    have hm := minL_mem (l := List.zipWith max (List.zipWith max r0 (stay n m)) (colOf m j.toNat)) (by intro z; rw [z] at hl; have := h.pos; simp at hl; omega)
    obtain ⟨k, hk, e⟩ := List.mem_iff_getElem.mp hm
    rw [List.getElem_zipWith, List.getElem_zipWith] at e
    have hk' : k < n := by rw [← hl]; exact hk
    have b1 := h.val r0 hr0 _ (List.getElem_mem (by rw [h.row _ hr0]; exact hk'))
    have b2 : 0 ≤ (stay n m)[k]'(by rw [stay_len]; exact hk') ∧ (stay n m)[k]'(by rw [stay_len]; exact hk') ≤ 3 := by
      have e1 : (stay n m)[k]'(by rw [stay_len]; exact hk') = fV (ent m k k) := by
        have := stay_get (m := m) hk'
        rw [List.getD_eq_getElem?_getD, List.getElem?_eq_getElem (by rw [stay_len]; exact hk')] at this
        exact this
      rw [e1]
      have := fV_val (ent_val h hk' hk')
      omega
    have b3 : 0 ≤ (colOf m j.toNat)[k]'(by omega) ∧ (colOf m j.toNat)[k]'(by omega) ≤ 3 := by
      have e1 : (colOf m j.toNat)[k]'(by omega) = ent m k j.toNat := by
        have := col_get (j := j.toNat) h hk'
        rw [List.getD_eq_getElem?_getD, List.getElem?_eq_getElem (by omega)] at this
        exact this
      rw [e1]
      exact ent_val h hk' (by omega)
    omega
theorem lt_ent_mul {n : Nat} {a b : Mx} (h : IsM n a) (h2 : IsM n b) {i j : Nat} (hi : i < n) (hj : j < n) {x : Int} : ent (mulM n a b) i j < x ↔ ∃ r, r < n ∧ ent a i r < x ∧ ent b r j < x := by
  constructor
  · intro q
    apply Classical.byContradiction
    intro no
    have : x ≤ ent (mulM n a b) i j := (le_ent_mul h h2 hi hj).mpr fun r hr => by
      by_cases c1 : x ≤ ent a i r
      · exact .inl c1
      · by_cases c2 : x ≤ ent b r j
        · exact .inr c2
        · exact absurd ⟨r, hr, by omega, by omega⟩ no
    omega
  · rintro ⟨r, hr, h1, h3⟩
    apply Classical.byContradiction
    intro no
    have := (le_ent_mul h h2 hi hj (x := x)).mp (by omega) r hr
    omega
theorem lt_ent_stab {n : Nat} {m : Mx} (h : IsM n m) {p q : Nat} (hp : p < n) (hq : q < n) {x : Int} : ent (stabM n m) p q < x ↔ ∃ r, r < n ∧ ent m p r < x ∧ fV (ent m r r) < x ∧ ent m r q < x := by
  constructor
  · intro z
    apply Classical.byContradiction
    intro no
    have : x ≤ ent (stabM n m) p q := (le_ent_stab h hp hq).mpr fun r hr => by
      by_cases c1 : x ≤ ent m p r
      · exact .inl c1
      · by_cases c2 : x ≤ fV (ent m r r)
        · exact .inr (.inl c2)
        · by_cases c3 : x ≤ ent m r q
          · exact .inr (.inr c3)
          · exact absurd ⟨r, hr, by omega, by omega, by omega⟩ no
    omega
  · rintro ⟨r, hr, h1, h2, h3⟩
    apply Classical.byContradiction
    intro no
    have := (le_ent_stab h hp hq (x := x)).mp (by omega) r hr
    omega
theorem Idem.lt {n : Nat} {m : Mx} (h : IsM n m) (hi : Idem n m) {i j : Nat} (h1 : i < n) (h2 : j < n) {x : Int} : ent m i j < x ↔ ∃ r, r < n ∧ ent m i r < x ∧ ent m r j < x := by
  have := lt_ent_mul h h h1 h2 (x := x)
  rw [show mulM n m m = m from hi] at this
  exact this
theorem Idem.trans {n : Nat} {m : Mx} (h : IsM n m) (hi : Idem n m) {i r j : Nat} (h1 : i < n) (hr : r < n) (h2 : j < n) {x : Int} (a : ent m i r < x) (b : ent m r j < x) : ent m i j < x := (hi.lt h h1 h2).mpr ⟨r, hr, a, b⟩
theorem pigeon {a b c d e : Nat} (ha : a < 4) (hb : b < 4) (hc : c < 4) (hd : d < 4) (he : e < 4) : a = b ∨ a = c ∨ a = d ∨ a = e ∨ b = c ∨ b = d ∨ b = e ∨ c = d ∨ c = e ∨ d = e := by
  have key : ∀ a b c d e : Fin 4, a = b ∨ a = c ∨ a = d ∨ a = e ∨ b = c ∨ b = d ∨ b = e ∨ c = d ∨ c = e ∨ d = e := by decide +kernel
  have := key ⟨a, ha⟩ ⟨b, hb⟩ ⟨c, hc⟩ ⟨d, hd⟩ ⟨e, he⟩
  simpa [Fin.ext_iff] using this
/-- on the way there is a state that stays -/
theorem Idem.stay {n : Nat} {m : Mx} (h : IsM n m) (hi : Idem n m) {p q : Nat} (hp : p < n) (hq : q < n) {x : Int} (z : ent m p q < x) : ∃ r, r < n ∧ ent m p r < x ∧ ent m r r < x ∧ ent m r q < x := by
  have h4 := h.le
  obtain ⟨a, ha, a1, a2⟩ := (hi.lt h hp hq).mp z
  obtain ⟨b, hb, b1, b2⟩ := (hi.lt h ha hq).mp a2
  obtain ⟨c, hc, c1, c2⟩ := (hi.lt h hb hq).mp b2
  obtain ⟨d, hd, d1, d2⟩ := (hi.lt h hc hq).mp c2
  obtain ⟨e, he, e1, e2⟩ := (hi.lt h hd hq).mp d2
  have T := @Idem.trans n m h hi
  have ac := T ha hb hc b1 c1
  have ad := T ha hc hd ac d1
  have ae := T ha hd he ad e1
  have bd := T hb hc hd c1 d1
  have be := T hb hd he bd e1
  have ce := T hc hd he d1 e1
  have pb := T hp ha hb a1 b1
  have pc := T hp hb hc pb c1
  have pd := T hp hc hd pc d1
  have out : ∀ u v, u < n → u = v → ent m u v < x → ent m p u < x → ent m u q < x → ∃ r, r < n ∧ ent m p r < x ∧ ent m r r < x ∧ ent m r q < x := fun u v hu e1 h1 h2 h3 => ⟨u, hu, h2, by subst e1; exact h1, h3⟩
  rcases pigeon (a := a) (b := b) (c := c) (d := d) (e := e) (by omega) (by omega) (by omega) (by omega) (by omega) with k | k | k | k | k | k | k | k | k | k
  · exact out a b ha k b1 a1 a2
  · exact out a c ha k ac a1 a2
  · exact out a d ha k ad a1 a2
  · exact out a e ha k ae a1 a2
  · exact out b c hb k c1 pb b2
  · exact out b d hb k bd pb b2
  · exact out b e hb k be pb b2
  · exact out c d hc k d1 pc c2
  · exact out c e hc k ce pc c2
  · exact out d e hd k e1 pd d2
/-- what lies below 1, 2, 3 in the stabilised one -/
theorem stab1 {n : Nat} {m : Mx} (h : IsM n m) (hi : Idem n m) {p q : Nat} (hp : p < n) (hq : q < n) : ent (stabM n m) p q < 1 ↔ ent m p q < 1 := by
  rw [lt_ent_stab h hp hq]
  constructor
  · rintro ⟨r, hr, a, _, b⟩
    exact hi.trans h hp hr hq a b
  · intro z
    obtain ⟨r, hr, a, b, c⟩ := hi.stay h hp hq z
    exact ⟨r, hr, a, (fV_val (ent_val h hr hr)).2.2.1.mpr b, c⟩
theorem stab3 {n : Nat} {m : Mx} (h : IsM n m) (hi : Idem n m) {p q : Nat} (hp : p < n) (hq : q < n) : ent (stabM n m) p q < 3 ↔ ent m p q < 3 := by
  rw [lt_ent_stab h hp hq]
  constructor
  · rintro ⟨r, hr, a, _, b⟩
    exact hi.trans h hp hr hq a b
  · intro z
    obtain ⟨r, hr, a, b, c⟩ := hi.stay h hp hq z
    exact ⟨r, hr, a, (fV_val (ent_val h hr hr)).2.2.2.1.mpr b, c⟩
theorem stab2 {n : Nat} {m : Mx} (h : IsM n m) {p q : Nat} (hp : p < n) (hq : q < n) : ent (stabM n m) p q < 2 ↔ ∃ r, r < n ∧ ent m p r < 2 ∧ ent m r r < 1 ∧ ent m r q < 2 := by
  rw [lt_ent_stab h hp hq]
  constructor
  · rintro ⟨r, hr, a, b, c⟩
    exact ⟨r, hr, a, (fV_val (ent_val h hr hr)).2.2.2.2.mp b, c⟩
  · rintro ⟨r, hr, a, b, c⟩
    exact ⟨r, hr, a, (fV_val (ent_val h hr hr)).2.2.2.2.mpr b, c⟩
theorem ext_lt {n : Nat} {a b : Mx} (h : IsM n a) (h2 : IsM n b) (e1 : ∀ i j, i < n → j < n → (ent a i j < 1 ↔ ent b i j < 1)) (e2 : ∀ i j, i < n → j < n → (ent a i j < 2 ↔ ent b i j < 2)) (e3 : ∀ i j, i < n → j < n → (ent a i j < 3 ↔ ent b i j < 3)) : a = b :=
  ext_M h h2 fun i j hi hj => by
    have v := ent_val h hi hj
    have w := ent_val h2 hi hj
    have k1 := e1 i j hi hj
    have k2 := e2 i j hi hj
    have k3 := e3 i j hi hj
    omega
section
variable {n : Nat} {m : Mx} (h : IsM n m) (hi : Idem n m)
include h hi
theorem mul_stab : mulM n m (stabM n m) = stabM n m := by
  have hs := isM_stab h
  refine ext_lt (isM_mul h hs) hs (fun i j a b => ?_) (fun i j a b => ?_) (fun i j a b => ?_)
  · rw [lt_ent_mul h hs a b, stab1 h hi a b, hi.lt h a b]
    exact ⟨fun ⟨r, hr, c, d⟩ => ⟨r, hr, c, (stab1 h hi hr b).mp d⟩, fun ⟨r, hr, c, d⟩ => ⟨r, hr, c, (stab1 h hi hr b).mpr d⟩⟩
  · rw [lt_ent_mul h hs a b, stab2 h a b]
    constructor
    · rintro ⟨r, hr, c, d⟩
      obtain ⟨u, hu, d1, d2, d3⟩ := (stab2 h hr b).mp d
      exact ⟨u, hu, hi.trans h a hr hu c d1, d2, d3⟩
    · rintro ⟨r, hr, c, d, e⟩
      exact ⟨r, hr, c, (stab2 h hr b).mpr ⟨r, hr, by omega, d, e⟩⟩
  · rw [lt_ent_mul h hs a b, stab3 h hi a b, hi.lt h a b]
    exact ⟨fun ⟨r, hr, c, d⟩ => ⟨r, hr, c, (stab3 h hi hr b).mp d⟩, fun ⟨r, hr, c, d⟩ => ⟨r, hr, c, (stab3 h hi hr b).mpr d⟩⟩
theorem stab_mul : mulM n (stabM n m) m = stabM n m := by
  have hs := isM_stab h
  refine ext_lt (isM_mul hs h) hs (fun i j a b => ?_) (fun i j a b => ?_) (fun i j a b => ?_)
  · rw [lt_ent_mul hs h a b, stab1 h hi a b, hi.lt h a b]
    exact ⟨fun ⟨r, hr, c, d⟩ => ⟨r, hr, (stab1 h hi a hr).mp c, d⟩, fun ⟨r, hr, c, d⟩ => ⟨r, hr, (stab1 h hi a hr).mpr c, d⟩⟩
  · rw [lt_ent_mul hs h a b, stab2 h a b]
    constructor
    · rintro ⟨r, hr, c, d⟩
      obtain ⟨u, hu, d1, d2, d3⟩ := (stab2 h a hr).mp c
      exact ⟨u, hu, d1, d2, hi.trans h hu hr b d3 d⟩
    · rintro ⟨r, hr, c, d, e⟩
      exact ⟨r, hr, (stab2 h a hr).mpr ⟨r, hr, c, d, by omega⟩, e⟩
  · rw [lt_ent_mul hs h a b, stab3 h hi a b, hi.lt h a b]
    exact ⟨fun ⟨r, hr, c, d⟩ => ⟨r, hr, (stab3 h hi a hr).mp c, d⟩, fun ⟨r, hr, c, d⟩ => ⟨r, hr, (stab3 h hi a hr).mpr c, d⟩⟩
theorem idem_stab : Idem n (stabM n m) := by
  have hs := isM_stab h
  refine ext_lt (isM_mul hs hs) hs (fun i j a b => ?_) (fun i j a b => ?_) (fun i j a b => ?_)
  · rw [lt_ent_mul hs hs a b, stab1 h hi a b, hi.lt h a b]
    exact ⟨fun ⟨r, hr, c, d⟩ => ⟨r, hr, (stab1 h hi a hr).mp c, (stab1 h hi hr b).mp d⟩, fun ⟨r, hr, c, d⟩ => ⟨r, hr, (stab1 h hi a hr).mpr c, (stab1 h hi hr b).mpr d⟩⟩
  · rw [lt_ent_mul hs hs a b, stab2 h a b]
    constructor
    · rintro ⟨r, hr, c, d⟩
      obtain ⟨u, hu, c1, c2, c3⟩ := (stab2 h a hr).mp c
      obtain ⟨v, hv, d1, d2, d3⟩ := (stab2 h hr b).mp d
      exact ⟨u, hu, c1, c2, hi.trans h hu hr b c3 (hi.trans h hr hv b d1 d3)⟩
    · rintro ⟨r, hr, c, d, e⟩
      exact ⟨r, hr, (stab2 h a hr).mpr ⟨r, hr, c, d, by omega⟩, (stab2 h hr b).mpr ⟨r, hr, by omega, d, e⟩⟩
  · rw [lt_ent_mul hs hs a b, stab3 h hi a b, hi.lt h a b]
    exact ⟨fun ⟨r, hr, c, d⟩ => ⟨r, hr, (stab3 h hi a hr).mp c, (stab3 h hi hr b).mp d⟩, fun ⟨r, hr, c, d⟩ => ⟨r, hr, (stab3 h hi a hr).mpr c, (stab3 h hi hr b).mpr d⟩⟩
theorem stab_stab : stabM n (stabM n m) = stabM n m := by
  have hs := isM_stab h
  have is := idem_stab h hi
  refine ext_lt (isM_stab hs) hs (fun i j a b => stab1 hs is a b) (fun i j a b => ?_) (fun i j a b => stab3 hs is a b)
  rw [stab2 hs a b]
  constructor
  · rintro ⟨r, hr, c, d, e⟩
    exact is.trans hs a hr b c e
  · intro z
    obtain ⟨r, hr, c, d, e⟩ := (stab2 h a b).mp z
    exact ⟨r, hr, (stab2 h a hr).mpr ⟨r, hr, c, d, by omega⟩, (stab1 h hi hr hr).mpr d, (stab2 h hr b).mpr ⟨r, hr, by omega, d, e⟩⟩
theorem le_stab {p q : Nat} (hp : p < n) (hq : q < n) : ent m p q ≤ ent (stabM n m) p q := by
  have v := ent_val h hp hq
  have w := ent_val (isM_stab h) hp hq
  have k1 := stab1 h hi hp hq
  have k3 := stab3 h hi hp hq
  have k2 : ent (stabM n m) p q < 2 → ent m p q < 2 := fun z => by
    obtain ⟨r, hr, a, _, b⟩ := (stab2 h hp hq).mp z
    exact hi.trans h hp hr hq a b
  omega
end
theorem ix_lst {r : List Int} {j : Int} (h0 : 0 ≤ j) (h : j < r.length) : gIx (lstD r) (.int j) = some (.int (r.getD j.toNat 0)) := by
  obtain ⟨k, rfl⟩ : ∃ k : Nat, j = k := ⟨j.toNat, by omega⟩
  refine gIx_l (n := k) ?_
  rw [List.getElem?_map, List.getD_eq_getElem?_getD, Int.toNat_natCast, List.getElem?_eq_getElem (by omega)]; rfl
/-! ## the law's own stabilised, states exchanged -/
theorem gMax3_i (a b c : Int) : gMax3 [.int a, .int b, .int c] = some (.int (max (max a b) c)) := rfl
theorem free_get {v : Int} (h : 0 ≤ v ∧ v ≤ 3) : gIx (.list [.int 0, .int 2, .int 2, .int 3]) (.int v) = some (.int (fV v)) := by
  have : v = 0 ∨ v = 1 ∨ v = 2 ∨ v = 3 := by omega
  rcases this with rfl | rfl | rfl | rfl <;> rfl
theorem law_stable_m {n : Nat} {m : Mx} (h : IsM n m) (s : Dk) : m__law_stable [.va (mxD m)] s = .ok (mxD (stabM n m)) s := by
  have hp := h.pos
  have hl := h.le
  refine mBody_rt rfl (sSeq_nx (s1 := s) (ρ' := [.va (mxD m), .va (lstD (upto n)), .un, .un, .un, .un]) (sAsg_ok (fLst_ok (fLRg1_ok (fCB_ok (fCons_ok (fVar_ok rfl) fNil_ok) (z := .int n) ?_) (by omega))) rfl) (sSeq_nx (s1 := s) (ρ' := [.va (mxD m), .va (lstD (upto n)), .va (lstD (stay n m)), .un, .un, .un]) (sAsg_ok (fLst_ok ?_) rfl) (sRet_ok (fCB_ok (fCons_ok (fLst_ok ?_) fNil_ok) rfl))))
  · show some (PyData.int (m.map rowD).length) = _
    rw [List.length_map, h.len]
  · unfold stay
    rw [List.map_map]
    refine fLc_map (δ := PyData.int) (fItems_ok (fVar_ok rfl) rfl) (by rw [upto_len]; omega) fun r hr => ⟨_, rfl, rfl, ?_⟩
    have hr := mem_upto.mp hr
    have r2 := h.row _ (row_mem h (j := r.toNat) (by omega))
    refine fBin_ok (x := .list [.int 0, .int 2, .int 2, .int 3]) rfl (fBin_ok (fBin_ok (fVar_ok rfl) (fVar_ok (d := .int r) rfl) (ix_mx hr.1 (by rw [h.len]; exact hr.2))) (fVar_ok (d := .int r) rfl) (ix_row hr.1 (by rw [r2]; exact hr.2))) (free_get ?_)
    exact ent_val h (i := r.toNat) (j := r.toNat) (by omega) (by omega)
  unfold stabM
  rw [List.map_map]
  refine fLc_map (δ := rowD) (fItems_ok (fVar_ok rfl) rfl) (by have := h.len; omega) fun row hr => ⟨_, rfl, rfl, fCB_ok (fCons_ok (fLst_ok ?_) fNil_ok) rfl⟩
  have rl := h.row row hr
  unfold stabRow colsOf
  rw [List.map_map, List.map_map]
  refine fLc_map (δ := PyData.int) (fItems_ok (fVar_ok (d := lstD (upto n)) rfl) rfl) (by rw [upto_len]; omega) fun q hq => ⟨_, rfl, rfl, ?_⟩
  have hq := mem_upto.mp hq
  have eL : List.zipWith max (List.zipWith max row (stay n m)) (colOf m q.toNat) = (upto n).map fun r => max (max (row.getD r.toNat 0) ((stay n m).getD r.toNat 0)) ((m.getD r.toNat []).getD q.toNat 0) := by
    refine List.ext_getElem? fun k => ?_
    by_cases hk : k < n
    · rw [List.getElem?_map, upto_get hk, List.getElem?_zipWith, List.getElem?_zipWith, getD_some (show k < row.length by omega), getD_some (show k < (stay n m).length by rw [stay_len]; exact hk), getD_some (show k < (colOf m q.toNat).length by rw [col_len h]; exact hk), col_get h hk]
      rfl
    · rw [List.getElem?_eq_none (by rw [List.length_zipWith, List.length_zipWith]; omega), List.getElem?_eq_none (by rw [List.length_map, upto_len]; omega)]
  refine fCB_ok (fCons_ok (fLst_ok (xs := (List.zipWith max (List.zipWith max row (stay n m)) (colOf m q.toNat)).map .int) ?_) fNil_ok) (gMin_l ?_)
  · rw [eL, List.map_map]
    refine fLc_map (δ := PyData.int) (fItems_ok (fVar_ok (d := lstD (upto n)) rfl) rfl) (by rw [upto_len]; omega) fun r hr' => ⟨_, rfl, rfl, ?_⟩
    have hr' := mem_upto.mp hr'
    have r2 := h.row _ (row_mem h (j := r.toNat) (by omega))
    exact fCB_ok (fCons_ok (fBin_ok (fVar_ok (d := rowD row) rfl) (fVar_ok (d := .int r) rfl) (ix_row hr'.1 (by rw [rl]; exact hr'.2))) (fCons_ok (fBin_ok (fVar_ok (d := lstD (stay n m)) rfl) (fVar_ok (d := .int r) rfl) (ix_lst hr'.1 (by rw [stay_len]; exact hr'.2))) (fCons_ok (fBin_ok (fBin_ok (fVar_ok rfl) (fVar_ok (d := .int r) rfl) (ix_mx hr'.1 (by rw [h.len]; exact hr'.2))) (fVar_ok (d := .int q) rfl) (ix_row hq.1 (by rw [r2]; exact hq.2))) fNil_ok))) (gMax3_i _ _ _)
  · intro z
    have := congrArg List.length z
    rw [List.length_zipWith, stab_row_len h hr, col_len h] at this
    simp at this; omega
/-- rows and columns in another order -/
def exchM (m : Mx) (pl : List Int) : Mx := pl.map fun p => pl.map fun q => (m.getD p.toNat []).getD q.toNat 0
theorem exchanged_m {n : Nat} {m : Mx} {pl : List Int} (h : IsM n m) (hp : ∀ p ∈ pl, 0 ≤ p ∧ p < n) (hl : pl.length ≤ 1000) (s : Dk) : m__law_exchanged [.va (mxD m), .va (lstD pl)] s = .ok (mxD (exchM m pl)) s := by
  refine mBody_rt rfl (sRet_ok (fCB_ok (fCons_ok (fLst_ok ?_) fNil_ok) rfl))
  unfold exchM
  rw [List.map_map]
  refine fLc_map (δ := PyData.int) (fItems_ok (fVar_ok (d := lstD pl) rfl) rfl) (by omega) fun p pm => ⟨_, rfl, rfl, fCB_ok (fCons_ok (fLst_ok ?_) fNil_ok) rfl⟩
  rw [List.map_map]
  refine fLc_map (δ := PyData.int) (fItems_ok (fVar_ok (d := lstD pl) rfl) rfl) (by omega) fun q qm => ⟨_, rfl, rfl, ?_⟩
  have p1 := hp p pm
  have q1 := hp q qm
  have r2 := h.row _ (row_mem h (j := p.toNat) (by omega))
  exact fBin_ok (fBin_ok (fVar_ok rfl) (fVar_ok (d := .int p) rfl) (ix_mx p1.1 (by rw [h.len]; exact p1.2))) (fVar_ok (d := .int q) rfl) (ix_row q1.1 (by rw [r2]; exact q1.2))
/-- an order of the states -/
structure Order (n : Nat) (pl : List Int) : Prop where
  len : pl.length = n
  val : ∀ p ∈ pl, 0 ≤ p ∧ p < n
  all : ∀ r, r < n → ∃ i, i < n ∧ pl.getD i 0 = (r : Int)
theorem Order.at {n : Nat} {pl : List Int} (o : Order n pl) {i : Nat} (hi : i < n) : (pl.getD i 0).toNat < n ∧ 0 ≤ pl.getD i 0 := by
  have hl := o.len
  have := o.val (pl.getD i 0) (by rw [List.getD_eq_getElem?_getD, List.getElem?_eq_getElem (by omega)]; exact List.getElem_mem _)
  omega
theorem ent_exch {n : Nat} {m : Mx} {pl : List Int} (o : Order n pl) {i j : Nat} (hi : i < n) (hj : j < n) : ent (exchM m pl) i j = ent m (pl.getD i 0).toNat (pl.getD j 0).toNat := by
  have hl := o.len
  unfold ent exchM
  rw [getD_map (d := 0) (by omega), getD_map (d := 0) (by omega)]
theorem isM_exch {n : Nat} {m : Mx} {pl : List Int} (h : IsM n m) (o : Order n pl) : IsM n (exchM m pl) := by
  refine ⟨by unfold exchM; rw [List.length_map, o.len], fun r hr => ?_, fun r hr x hx => ?_, h.pos, h.le⟩
  · obtain ⟨p, _, rfl⟩ := List.mem_map.mp hr
    rw [List.length_map, o.len]
  · obtain ⟨p, pm, rfl⟩ := List.mem_map.mp hr
    obtain ⟨q, qm, rfl⟩ := List.mem_map.mp hx
    have p1 := o.val p pm
    have q1 := o.val q qm
    exact ent_val h (i := p.toNat) (j := q.toNat) (by omega) (by omega)
theorem Order.ex {n : Nat} {pl : List Int} (o : Order n pl) {P : Nat → Prop} : (∃ r, r < n ∧ P r) ↔ ∃ i, i < n ∧ P (pl.getD i 0).toNat := by
  constructor
  · rintro ⟨r, hr, z⟩
    obtain ⟨i, hi, e⟩ := o.all r hr
    exact ⟨i, hi, by rw [e]; exact z⟩
  · rintro ⟨i, hi, z⟩
    exact ⟨_, (o.at hi).1, z⟩
theorem exists_congr' {n : Nat} {P Q : Nat → Prop} (h : ∀ r, r < n → (P r ↔ Q r)) : (∃ r, r < n ∧ P r) ↔ ∃ r, r < n ∧ Q r :=
  ⟨fun ⟨r, hr, z⟩ => ⟨r, hr, (h r hr).mp z⟩, fun ⟨r, hr, z⟩ => ⟨r, hr, (h r hr).mpr z⟩⟩
theorem ext_ltx {n : Nat} {a b : Mx} (h : IsM n a) (h2 : IsM n b) (e : ∀ i j (x : Int), i < n → j < n → (ent a i j < x ↔ ent b i j < x)) : a = b :=
  ext_lt h h2 (fun i j hi hj => e i j 1 hi hj) (fun i j hi hj => e i j 2 hi hj) fun i j hi hj => e i j 3 hi hj
theorem mul_exch {n : Nat} {a b : Mx} {pl : List Int} (h : IsM n a) (h2 : IsM n b) (o : Order n pl) : mulM n (exchM a pl) (exchM b pl) = exchM (mulM n a b) pl := by
  have h' := isM_exch h o
  have h2' := isM_exch h2 o
  refine ext_ltx (isM_mul h' h2') (isM_exch (isM_mul h h2) o) fun i j x hi hj => ?_
  rw [lt_ent_mul h' h2' hi hj, ent_exch o hi hj, lt_ent_mul h h2 (o.at hi).1 (o.at hj).1, o.ex (P := fun r => ent a (pl.getD i 0).toNat r < x ∧ ent b r (pl.getD j 0).toNat < x)]
  exact exists_congr' fun r hr => by rw [ent_exch o hi hr, ent_exch o hr hj]
theorem idem_exch {n : Nat} {m : Mx} {pl : List Int} (h : IsM n m) (hi : Idem n m) (o : Order n pl) : Idem n (exchM m pl) := by
  unfold Idem
  rw [mul_exch h h o, show mulM n m m = m from hi]
theorem stab_exch {n : Nat} {m : Mx} {pl : List Int} (h : IsM n m) (o : Order n pl) : stabM n (exchM m pl) = exchM (stabM n m) pl := by
  have h' := isM_exch h o
  refine ext_ltx (isM_stab h') (isM_exch (isM_stab h) o) fun i j x hi hj => ?_
  rw [lt_ent_stab h' hi hj, ent_exch o hi hj, lt_ent_stab h (o.at hi).1 (o.at hj).1, o.ex (P := fun r => ent m (pl.getD i 0).toNat r < x ∧ fV (ent m r r) < x ∧ ent m r (pl.getD j 0).toNat < x)]
  exact exists_congr' fun r hr => by rw [ent_exch o hi hr, ent_exch o hr hr, ent_exch o hr hj]
/-- turned about from f on -/
def turned (n f : Nat) : List Int := ((List.range (n - f)).map fun i => ((f + i : Nat) : Int)) ++ upto f
theorem order_turned {n f : Nat} (hf : f < n) : Order n (turned n f) := by
  have hl : (turned n f).length = n := by
    unfold turned
    rw [List.length_append, List.length_map, List.length_range, upto_len]; omega
  refine ⟨hl, fun p hp => ?_, fun r hr => ?_⟩
  · unfold turned at hp
    rcases List.mem_append.mp hp with hp | hp
    · obtain ⟨i, hi, rfl⟩ := List.mem_map.mp hp
      have := List.mem_range.mp hi
      omega
    · have := mem_upto.mp hp
      omega
  · by_cases c : f ≤ r
    · refine ⟨r - f, by omega, ?_⟩
      unfold turned
      rw [List.getD_eq_getElem?_getD, List.getElem?_append_left (by rw [List.length_map, List.length_range]; omega), List.getElem?_map, List.getElem?_range (by omega)]
      show ((f + (r - f) : Nat) : Int) = _
      omega
    · refine ⟨n - f + r, by omega, ?_⟩
      unfold turned
      rw [List.getD_eq_getElem?_getD, List.getElem?_append_right (by rw [List.length_map, List.length_range]; omega), List.length_map, List.length_range, show n - f + r - (n - f) = r by omega, upto_get (by omega)]
      rfl
/-! ## at most -/
def leM (a b : Mx) : Bool := (a.zip b).all fun p => (p.1.zip p.2).all fun q => decide (q.1 ≤ q.2)
theorem is_at_most_m {n : Nat} {a b : Mx} (h : IsM n a) (h2 : IsM n b) (s : Dk) : m_is_at_most [.va (mxD a), .va (mxD b)] s = .ok (.bool (leM a b)) s := by
  refine mBody_rt rfl (sSeq_nx (s1 := s) (sExpr_ok (fCall_ok (fConsA_ok (fVar_ok rfl) (fConsA_ok (fVar_ok rfl) fNil_ok)) (need_two_m h h2 s))) (sRet_ok (fCB_ok (xs := [.list (((a.zip b).flatMap fun p => (p.1.zip p.2).map fun q => decide (q.1 ≤ q.2)).map .bool)]) (fCons_ok (fLst_ok ?_) fNil_ok) ?_)))
  · have e : ((a.zip b).flatMap fun p => (p.1.zip p.2).map fun q => decide (q.1 ≤ q.2)).map PyData.bool = (a.zip b).flatMap fun p => (p.1.zip p.2).map fun q => PyData.bool (decide (q.1 ≤ q.2)) := by
      rw [List.map_flatMap]
      refine congrArg (fun f => List.flatMap f _) (funext fun p => ?_)
      rw [List.map_map]; rfl
    rw [e]
    refine fLc2_map (δ := fun p : List Int × List Int => PyData.tuple [rowD p.1, rowD p.2]) (ε := fun p : Int × Int => PyData.tuple [.int p.1, .int p.2]) (ys := fun p => p.1.zip p.2)
      ((fZip_ok (fCons_ok (fVar_ok rfl) (fCons_ok (fVar_ok rfl) fNil_ok)) rfl rfl).trans (by rw [zipD_map])) ?_ fun p hp => ⟨_, rfl, rfl, (fZip_ok (fCons_ok (fVar_ok rfl) (fCons_ok (fVar_ok rfl) fNil_ok)) rfl rfl).trans (by rw [zipD_map]), fun q _ => ⟨_, rfl, rfl, fBin_ok (fVar_ok rfl) (fVar_ok rfl) gLe_i⟩⟩
    have : ∀ l : List (List Int × List Int), (∀ p ∈ l, p.1.length ≤ 4) → (l.flatMap fun p => p.1.zip p.2).length ≤ l.length * 4 := fun l hl => by
      induction l with
      | nil => simp
      | cons p l ih =>
        have h1 := hl p List.mem_cons_self
        have h2 := ih fun q hq => hl q (List.mem_cons_of_mem _ hq)
        rw [List.flatMap_cons, List.length_append, List.length_zip, List.length_cons]
        omega
    have h3 := this (a.zip b) fun p hp => by
      have := h.row p.1 (List.of_mem_zip hp).1
      have := h.le; omega
    rw [List.length_zip, h.len] at h3
    have := h.le
    omega
  · rw [gAll_b]
    unfold leM
    rw [List.all_flatMap]
    simp only [List.all_map]
    rfl
theorem leM_iff {n : Nat} {a b : Mx} (h : IsM n a) (h2 : IsM n b) : leM a b = true ↔ ∀ i j, i < n → j < n → ent a i j ≤ ent b i j := by
  have l1 := h.len
  have l2 := h2.len
  unfold leM
  constructor
  · intro q i j hi hj
    have ha := row_mem h hi
    have hb := row_mem h2 hi
    have r1 := h.row _ ha
    have r2 := h2.row _ hb
    have m1 : (a.getD i [], b.getD i []) ∈ a.zip b := by
      refine List.mem_of_getElem? (i := i) ?_
      rw [List.getElem?_zip_eq_some]
      simp [List.getD_eq_getElem?_getD, List.getElem?_eq_getElem, l1, l2, hi]
    have q1 := List.all_eq_true.mp q _ m1
    have m2 : (ent a i j, ent b i j) ∈ (a.getD i []).zip (b.getD i []) := by
      refine List.mem_of_getElem? (i := j) ?_
      rw [List.getElem?_zip_eq_some]
      unfold ent
      constructor
      · rw [List.getD_eq_getElem?_getD (l := a.getD i []), List.getElem?_eq_getElem (by omega)]; rfl
      · rw [List.getD_eq_getElem?_getD (l := b.getD i []), List.getElem?_eq_getElem (by omega)]; rfl
    exact of_decide_eq_true (List.all_eq_true.mp q1 _ m2)
  · intro q
    refine List.all_eq_true.mpr fun p hp => List.all_eq_true.mpr fun t ht => ?_
    obtain ⟨i, hi⟩ := List.getElem?_of_mem hp
    obtain ⟨e1, e2⟩ := List.getElem?_zip_eq_some.mp hi
    obtain ⟨j, hj⟩ := List.getElem?_of_mem ht
    obtain ⟨e3, e4⟩ := List.getElem?_zip_eq_some.mp hj
    have hin : i < n := by rw [← l1]; exact (List.getElem?_eq_some_iff.mp e1).1
    have hjn : j < n := by rw [← h.row p.1 (List.mem_of_getElem? e1)]; exact (List.getElem?_eq_some_iff.mp e3).1
    have := q i j hin hjn
    unfold ent at this
    simp only [List.getD_eq_getElem?_getD, e1, e2, Option.getD_some, e3, e4] at this
    exact decide_eq_true this
theorem mul_mono {n : Nat} {a b c d : Mx} (ha : IsM n a) (hb : IsM n b) (hc : IsM n c) (hd : IsM n d) (h1 : leM a b = true) (h2 : leM c d = true) : leM (mulM n a c) (mulM n b d) = true := by
  rw [leM_iff (isM_mul ha hc) (isM_mul hb hd)]
  intro i j hi hj
  have k1 := (leM_iff ha hb).mp h1
  have k2 := (leM_iff hc hd).mp h2
  refine (le_ent_mul hb hd hi hj).mpr fun r hr => ?_
  rcases (le_ent_mul ha hc hi hj).mp (Int.le_refl _) r hr with q | q
  · exact .inl (Int.le_trans q (k1 i r hi hr))
  · exact .inr (Int.le_trans q (k2 r j hr hj))
theorem leM_refl {n : Nat} {a : Mx} (h : IsM n a) : leM a a = true := (leM_iff h h).mpr fun _ _ _ _ => Int.le_refl _
/-! ## the law -/
theorem law_idem_dr {n : Nat} (h1 : 1 ≤ n) (h4 : n ≤ 4) : Dr 3 17 (m__law_idempotent [.dk 3, .va (.int n)]) fun d => ∃ m, d = mxD m ∧ IsM n m ∧ Idem n m := by
  refine Dr.body rfl (DrR.ret fun b s i l => ?_)
  obtain ⟨d, s1, e, ⟨m, rfl, hm⟩, i1⟩ := matrix_dr h1 h4 b s i l
  obtain ⟨k, le⟩ := least_ex hm
  refine ⟨_, s1, fBin_ok (fCall_ok (fConsA_ok (fCall_ok (fConsV_dk rfl (fConsA_ok (fVar_ok rfl) fNil_ok)) e) fNil_ok) (law_power_m hm le s1)) fC_e rfl, ⟨_, rfl, isM_pw hm k, le.idem⟩, i1⟩
theorem zip_ent {n : Nat} {a b : Mx} (h : IsM n a) (h2 : IsM n b) {p : List Int × List Int} (hp : p ∈ a.zip b) {q : Int × Int} (hq : q ∈ p.1.zip p.2) : ∃ i j, i < n ∧ j < n ∧ q.1 = ent a i j ∧ q.2 = ent b i j := by
  obtain ⟨i, hi⟩ := List.getElem?_of_mem hp
  obtain ⟨e1, e2⟩ := List.getElem?_zip_eq_some.mp hi
  obtain ⟨j, hj⟩ := List.getElem?_of_mem hq
  obtain ⟨e3, e4⟩ := List.getElem?_zip_eq_some.mp hj
  have hin : i < n := by rw [← h.len]; exact (List.getElem?_eq_some_iff.mp e1).1
  have hjn : j < n := by rw [← h.row p.1 (List.mem_of_getElem? e1)]; exact (List.getElem?_eq_some_iff.mp e3).1
  refine ⟨i, j, hin, hjn, ?_, ?_⟩
  · unfold ent
    simp only [List.getD_eq_getElem?_getD, e1, Option.getD_some, e3]
  · unfold ent
    simp only [List.getD_eq_getElem?_getD, e2, Option.getD_some, e4]
theorem gNe_f {a b : Bool} (h : a = b) : gNe (.bool a) (.bool b) = some (.bool false) := by rw [gNe_b, decide_eq_true h]; rfl
theorem fLRg2_ok {fa fb : Sem1 D} {ρ : En} {s s1 s2 : Dk} {a b : Nat} (ha : fa ρ s = .ok (.int a) s1) (hb : fb ρ s1 = .ok (.int b) s2) (h : a ≤ b) (h2 : b ≤ 1000000) : fLRg2 fa fb ρ s = .ok (((List.range (b - a)).map fun i => ((a + i : Nat) : Int)).map .int) s2 := by
  unfold fLRg2
  rw [ha, Res.bind_ok, hb, Res.bind_ok]
  show (if rgOkB a b = true then Res.ok (rgD a b) s2 else .bad) = _
  rw [if_pos]
  · unfold rgD
    rw [upto_rg a b h]
  · unfold rgOkB intOk lineOk
    rw [Bool.and_eq_true, Bool.and_eq_true, Bool.and_eq_true, Bool.and_eq_true]
    exact ⟨⟨⟨decide_eq_true (by omega), decide_eq_true (by omega)⟩, decide_eq_true (by omega), decide_eq_true (by omega)⟩, decide_eq_true (by omega)⟩
theorem law_run (ns : List Int) (hl : ns.length ≤ 63) : ∃ s', c_law (.sc ns :: .dk 3 :: List.replicate 10 .un) (srcC ns, 0, 0) = .rt (.bool true) s' := by
  refine law_end (c := 8 * 100) (P := fun ρ => ∃ x2 x3 x4 x5 x6 x7 x8 x9 x10 x11, ρ = [.sc ns, .dk 3, x2, x3, x4, x5, x6, x7, x8, x9, x10, x11]) hl ?_ (by decide)
  refine DrS.for (ds := (upto 8).map PyData.int) (c := 100) (fun s => fRange1_ok (fCons_ok fC_e fNil_ok) (by decide)) (fun d hd ρ hρ => ?_) ⟨_, _, _, _, _, _, _, _, _, _, rfl⟩
  obtain ⟨x2, x3, x4, x5, x6, x7, x8, x9, x10, x11, rfl⟩ := hρ
  refine ⟨_, rfl, DrS.more (c := 1 + (17 + (0 + 1))) ?_ (by decide)⟩
  refine DrS.seq (c := 1) (d := 17 + (0 + 1)) (P := fun ρ => ∃ n : Nat, ρ = [.sc ns, .dk 3, .va d, .va (.int n), x4, x5, x6, x7, x8, x9, x10, x11] ∧ 1 ≤ n ∧ n ≤ 4) (DrS.asg (P := fun d => ∃ n : Nat, d = .int n ∧ 1 ≤ n ∧ n ≤ 4) (Dr.bin (fun s => fC_e) (Dr.call (fun s => fConsV_dk rfl (fConsA_ok fC_e fNil_ok)) (Dr.draw (by decide) (by decide))) ?_) ?_) ?_
  · rintro _ ⟨k, rfl, k0, k1⟩
    exact ⟨_, gAdd_i, k.toNat + 1, congrArg PyData.int (by omega), by omega, by omega⟩
  · rintro _ ⟨n, rfl, h⟩
    exact ⟨_, rfl, n, rfl, h⟩
  rintro _ ⟨n, rfl, n1, n4⟩
  refine DrS.seq (c := 17) (d := 0 + 1) (P := fun ρ => ∃ A, ρ = [.sc ns, .dk 3, .va d, .va (.int n), .va (mxD A), x5, x6, x7, x8, x9, x10, x11] ∧ IsM n A ∧ Idem n A) (DrS.asg (Dr.call (fun s => fConsV_dk rfl (fConsA_ok (fVar_ok rfl) fNil_ok)) (law_idem_dr n1 n4)) ?_) ?_
  · rintro _ ⟨A, rfl, h⟩
    exact ⟨_, rfl, A, rfl, h⟩
  rintro _ ⟨A, rfl, hA, hi⟩
  have hS := isM_stab hA
  have hiS := idem_stab hA hi
  refine DrS.seq (c := 0) (d := 1) (P := fun ρ => ρ = [.sc ns, .dk 3, .va d, .va (.int n), .va (mxD A), .va (mxD (stabM n A)), x6, x7, x8, x9, x10, x11]) (DrS.pure (fun s => sAsg_ok (fCall_ok (fConsA_ok (fVar_ok rfl) fNil_ok) (stabilised_m hA hi s)) rfl) rfl) ?_
  rintro _ rfl
  refine DrS.seq (c := 0) (d := 1) (DrS.if0 (fun s => fOrT_ok (b := false) (c := false) (fTest_ok (fBin_ok (fVar_ok rfl) (fCall_ok (fConsA_ok (fVar_ok rfl) fNil_ok) (law_stable_m hA s)) (gNe_mx _))) fun _ => fTest_ok (fBin_ok (fCallK_ok fNil_ok (fConsA_ok (fVar_ok rfl) fNil_ok) (stabilised_m hA hi s)) (fVar_ok rfl) (gNe_mx _))) rfl) ?_
  rintro _ rfl
  -- zeros, threes, nowhere less
  let P : En → Prop := fun ρ => ∃ y6 y7 y8 y9, ρ = [.sc ns, .dk 3, .va d, .va (.int n), .va (mxD A), .va (mxD (stabM n A)), y6, y7, y8, y9, x10, x11]
  have big : DrS 3 0 (sFor (fZip (fCons (fVar 4) (fCons (fVar 5) fNil))) (gTupD 2 (gsCons (gVar 6) (gsCons (gVar 7) gsNil))) (sFor (fZip (fCons (fVar 6) (fCons (fVar 7) fNil))) (gTupD 2 (gsCons (gVar 8) (gsCons (gVar 9) gsNil))) (sIf (fOrT (fTest (fBin gNe (fBin gEq (fVar 8) (fC (.int 0))) (fBin gEq (fVar 9) (fC (.int 0))))) (fOrT (fTest (fBin gNe (fBin gEq (fVar 8) (fC (.int 3))) (fBin gEq (fVar 9) (fC (.int 3))))) (fTest (fBin gLt (fVar 9) (fVar 8))))) (sRet (fC (.bool false))) sNil)) [.sc ns, .dk 3, .va d, .va (.int n), .va (mxD A), .va (mxD (stabM n A)), x6, x7, x8, x9, x10, x11]) P := by
    refine DrS.more (DrS.for (k := 3) (c := 0) (P := P) (ds := (A.zip (stabM n A)).map fun p => PyData.tuple [rowD p.1, rowD p.2]) (fun s => (fZip_ok (fCons_ok (fVar_ok rfl) (fCons_ok (fVar_ok rfl) fNil_ok)) rfl rfl).trans (by rw [zipD_map])) ?_ ⟨_, _, _, _, rfl⟩) (by omega)
    intro e he ρ hρ
    obtain ⟨p, hp, rfl⟩ := List.mem_map.mp he
    obtain ⟨y6, y7, y8, y9, rfl⟩ := hρ
    refine ⟨_, rfl, ?_⟩
    let P2 : En → Prop := fun ρ => ∃ y8 y9, ρ = [.sc ns, .dk 3, .va d, .va (.int n), .va (mxD A), .va (mxD (stabM n A)), .va (rowD p.1), .va (rowD p.2), y8, y9, x10, x11]
    refine DrS.imp (P := P2) (DrS.more (DrS.for (k := 3) (c := 0) (P := P2) (ds := (p.1.zip p.2).map fun q => PyData.tuple [.int q.1, .int q.2]) (fun s => (fZip_ok (fCons_ok (fVar_ok rfl) (fCons_ok (fVar_ok rfl) fNil_ok)) rfl rfl).trans (by rw [zipD_map])) ?_ ⟨_, _, rfl⟩) (by omega)) ?_
    · intro e2 he2 ρ hρ
      obtain ⟨q, hq, rfl⟩ := List.mem_map.mp he2
      obtain ⟨y8, y9, rfl⟩ := hρ
      obtain ⟨i, j, hin, hjn, q1, q2⟩ := zip_ent hA hS hp hq
      have v := ent_val hA hin hjn
      have w := ent_val hS hin hjn
      have k1 := stab1 hA hi hin hjn
      have k3 := stab3 hA hi hin hjn
      have kl := le_stab hA hi hin hjn
      rw [← q1] at v k1 k3 kl
      rw [← q2] at w k1 k3 kl
      refine ⟨_, rfl, DrS.if0 (fun s => ?_) ⟨.va (.int q.1), .va (.int q.2), rfl⟩⟩
      refine fOrT_ok (b := false) (c := false) (fTest_ok (fBin_ok (fBin_ok (fVar_ok (d := .int q.1) rfl) fC_e gEq_i) (fBin_ok (fVar_ok (d := .int q.2) rfl) fC_e gEq_i) (gNe_f (decide_eq_decide.mpr ⟨fun z => by omega, fun z => by omega⟩)))) fun _ => fOrT_ok (b := false) (c := false) (fTest_ok (fBin_ok (fBin_ok (fVar_ok (d := .int q.1) rfl) fC_e gEq_i) (fBin_ok (fVar_ok (d := .int q.2) rfl) fC_e gEq_i) (gNe_f (decide_eq_decide.mpr ⟨fun z => by omega, fun z => by omega⟩)))) fun _ => fTest_ok (fBin_ok (fVar_ok (d := .int q.2) rfl) (fVar_ok (d := .int q.1) rfl) (gLt_i.trans (by rw [decide_eq_false (by omega)])))
    · rintro _ ⟨y8, y9, rfl⟩
      exact ⟨_, _, _, _, rfl⟩
  refine DrS.seq (c := 0) (d := 1) big ?_
  rintro _ ⟨y6, y7, y8, y9, rfl⟩
  have tr : gIsNot (.bool true) (.bool true) = some (.bool false) := rfl
  have hle : leM A (stabM n A) = true := (leM_iff hA hS).mpr fun i j a b => le_stab hA hi a b
  refine DrS.seq (c := 0) (d := 1) (DrS.if0 (fun s => fOrT_ok (b := false) (c := false) (fTest_ok (fBin_ok (fCall_ok (fConsA_ok (fVar_ok rfl) fNil_ok) ((is_idempotent_m hS s).trans (by rw [idemB_t hiS]))) fC_e tr)) fun _ =>
    fOrT_ok (b := false) (c := false) (fTest_ok (fBin_ok (fCall_ok (fConsA_ok (fVar_ok rfl) (fConsA_ok (fVar_ok rfl) fNil_ok)) ((is_at_most_m hA hS s).trans (by rw [hle]))) fC_e tr)) fun _ =>
      fTest_ok (fBin_ok (fCall_ok (fConsA_ok (fVar_ok rfl) fNil_ok) (stabilised_m hS hiS s)) (fVar_ok rfl) (gNe_mx' (stab_stab hA hi)))) rfl) ?_
  rintro _ rfl
  refine DrS.seq (c := 0) (d := 1) (DrS.if0 (fun s => fOrT_ok (b := false) (c := false) (fTest_ok (fBin_ok (fCall_ok (fConsA_ok (fVar_ok rfl) (fConsA_ok (fVar_ok rfl) fNil_ok)) (product_m hA hS s)) (fVar_ok rfl) (gNe_mx' (mul_stab hA hi)))) fun _ =>
    fOrT_ok (b := false) (c := false) (fTest_ok (fBin_ok (fCall_ok (fConsA_ok (fVar_ok rfl) (fConsA_ok (fVar_ok rfl) fNil_ok)) (product_m hS hA s)) (fVar_ok rfl) (gNe_mx' (stab_mul hA hi)))) fun _ =>
      fTest_ok (fBin_ok (fCall_ok (fConsA_ok (fVar_ok rfl) (fConsA_ok (fVar_ok rfl) fNil_ok)) (product_m hS hS s)) (fVar_ok rfl) (gNe_mx' hiS))) rfl) ?_
  rintro _ rfl
  -- states exchanged
  refine DrS.seq (c := 1) (d := 0) (P := fun ρ => ∃ f : Nat, ρ = [.sc ns, .dk 3, .va d, .va (.int n), .va (mxD A), .va (mxD (stabM n A)), y6, y7, y8, y9, .va (.int f), x11] ∧ f < n) (DrS.asg (Dr.call (fun s => fConsV_dk rfl (fConsA_ok (fVar_ok rfl) fNil_ok)) (Dr.draw (by omega) (by omega))) ?_) ?_
  · rintro _ ⟨k, rfl, k0, k1⟩
    obtain ⟨f, rfl⟩ : ∃ f : Nat, k = f := ⟨k.toNat, by omega⟩
    exact ⟨_, rfl, f, rfl, by omega⟩
  rintro _ ⟨f, rfl, hf⟩
  have o := order_turned hf
  refine DrS.seq (c := 0) (d := 0) (P := fun ρ => ρ = [.sc ns, .dk 3, .va d, .va (.int n), .va (mxD A), .va (mxD (stabM n A)), y6, y7, y8, y9, .va (.int f), .va (lstD (turned n f))]) (DrS.pure (fun s => sAsg_ok (fBin_ok (fLst_ok (fLRg2_ok (a := f) (b := n) (fVar_ok rfl) (fVar_ok rfl) (by omega) (by omega))) (fLst_ok (fLRg1_ok (n := f) (fVar_ok rfl) (by omega))) ?_) rfl) rfl) ?_
  · show (if _ then _ else _) = _
    rw [if_pos]
    · unfold turned
      rw [← List.map_append]
    · refine lineOk_t ?_
      rw [List.length_map, List.length_map, List.length_map, List.length_range, upto_len]; omega
  rintro _ rfl
  have ex : ∀ {M : Mx} (hM : IsM n M) (s : Dk), m__law_exchanged [.va (mxD M), .va (lstD (turned n f))] s = .ok (mxD (exchM M (turned n f))) s := fun hM s => exchanged_m hM o.val (by have := o.len; omega) s
  exact DrS.if0 (fun s => fTest_ok (fBin_ok (fCall_ok (fConsA_ok (fCall_ok (fConsA_ok (fVar_ok rfl) (fConsA_ok (fVar_ok rfl) fNil_ok)) (ex hA s)) fNil_ok) (stabilised_m (isM_exch hA o) (idem_exch hA hi o) s)) (fCall_ok (fConsA_ok (fVar_ok rfl) (fConsA_ok (fVar_ok rfl) fNil_ok)) (ex hS s)) (gNe_mx' (stab_exch hA o)))) ⟨_, _, _, _, _, _, _, _, _, _, rfl⟩
end Cw

namespace Cw
open PySem PySem.Spec PyProof.Rows L2
section
theorem all_mk {P : Program} {w : World} {K : Fg} {h : Heap} {mg : Str → Option Value} {fa : Addr} (X : K.In h) (G : h.Ns mainGlobals mg) (hfa : mg "law" = some (.ref fa))
    {f__law_source : Addr} {od__law_source an__law_source : Option Addr} {sl__law_source : Array (Option Value)} {oc__law_source kV__law_source dc__law_source pm__law_source cd__law_source ct__law_source : Value} (ha__law_source : PySem.W.nsIn K mainGlobals "_law_source" = some (some (.ref f__law_source))) (hl__law_source : K.lookup f__law_source = some ⟨oc__law_source, od__law_source, .func (PySem.W.fnOf "_law_source" "_law_source" (defArgs s__law_source) (defBody s__law_source) (defScope s__law_source) .none kV__law_source dc__law_source pm__law_source an__law_source cd__law_source ct__law_source), sl__law_source⟩) (hc__law_source : PySem.W.codeIn K cd__law_source "_law_source" = true) (hk__law_source : PySem.W.keepIn K (.ref f__law_source) = true)
    {f_product_entry : Addr} {od_product_entry an_product_entry : Option Addr} {sl_product_entry : Array (Option Value)} {oc_product_entry kV_product_entry dc_product_entry pm_product_entry cd_product_entry ct_product_entry : Value} (ha_product_entry : PySem.W.nsIn K mainGlobals "product_entry" = some (some (.ref f_product_entry))) (hl_product_entry : K.lookup f_product_entry = some ⟨oc_product_entry, od_product_entry, .func (PySem.W.fnOf "product_entry" "product_entry" (defArgs s_product_entry) (defBody s_product_entry) (defScope s_product_entry) .none kV_product_entry dc_product_entry pm_product_entry an_product_entry cd_product_entry ct_product_entry), sl_product_entry⟩) (hc_product_entry : PySem.W.codeIn K cd_product_entry "product_entry" = true) (hk_product_entry : PySem.W.keepIn K (.ref f_product_entry) = true)
    {f_columns_of : Addr} {od_columns_of an_columns_of : Option Addr} {sl_columns_of : Array (Option Value)} {oc_columns_of kV_columns_of dc_columns_of pm_columns_of cd_columns_of ct_columns_of : Value} (ha_columns_of : PySem.W.nsIn K mainGlobals "columns_of" = some (some (.ref f_columns_of))) (hl_columns_of : K.lookup f_columns_of = some ⟨oc_columns_of, od_columns_of, .func (PySem.W.fnOf "columns_of" "columns_of" (defArgs s_columns_of) (defBody s_columns_of) (defScope s_columns_of) .none kV_columns_of dc_columns_of pm_columns_of an_columns_of cd_columns_of ct_columns_of), sl_columns_of⟩) (hc_columns_of : PySem.W.codeIn K cd_columns_of "columns_of" = true) (hk_columns_of : PySem.W.keepIn K (.ref f_columns_of) = true)
    {f_staying_values : Addr} {od_staying_values an_staying_values : Option Addr} {sl_staying_values : Array (Option Value)} {oc_staying_values kV_staying_values dc_staying_values pm_staying_values cd_staying_values ct_staying_values : Value} (ha_staying_values : PySem.W.nsIn K mainGlobals "staying_values" = some (some (.ref f_staying_values))) (hl_staying_values : K.lookup f_staying_values = some ⟨oc_staying_values, od_staying_values, .func (PySem.W.fnOf "staying_values" "staying_values" (defArgs s_staying_values) (defBody s_staying_values) (defScope s_staying_values) .none kV_staying_values dc_staying_values pm_staying_values an_staying_values cd_staying_values ct_staying_values), sl_staying_values⟩) (hc_staying_values : PySem.W.codeIn K cd_staying_values "staying_values" = true) (hk_staying_values : PySem.W.keepIn K (.ref f_staying_values) = true)
    {f_stabilised_in : Addr} {od_stabilised_in an_stabilised_in : Option Addr} {sl_stabilised_in : Array (Option Value)} {oc_stabilised_in kV_stabilised_in dc_stabilised_in pm_stabilised_in cd_stabilised_in ct_stabilised_in : Value} (ha_stabilised_in : PySem.W.nsIn K mainGlobals "stabilised_in" = some (some (.ref f_stabilised_in))) (hl_stabilised_in : K.lookup f_stabilised_in = some ⟨oc_stabilised_in, od_stabilised_in, .func (PySem.W.fnOf "stabilised_in" "stabilised_in" (defArgs s_stabilised_in) (defBody s_stabilised_in) (defScope s_stabilised_in) .none kV_stabilised_in dc_stabilised_in pm_stabilised_in an_stabilised_in cd_stabilised_in ct_stabilised_in), sl_stabilised_in⟩) (hc_stabilised_in : PySem.W.codeIn K cd_stabilised_in "stabilised_in" = true) (hk_stabilised_in : PySem.W.keepIn K (.ref f_stabilised_in) = true)
    {f_product_in : Addr} {od_product_in an_product_in : Option Addr} {sl_product_in : Array (Option Value)} {oc_product_in kV_product_in dc_product_in pm_product_in cd_product_in ct_product_in : Value} (ha_product_in : PySem.W.nsIn K mainGlobals "product_in" = some (some (.ref f_product_in))) (hl_product_in : K.lookup f_product_in = some ⟨oc_product_in, od_product_in, .func (PySem.W.fnOf "product_in" "product_in" (defArgs s_product_in) (defBody s_product_in) (defScope s_product_in) .none kV_product_in dc_product_in pm_product_in an_product_in cd_product_in ct_product_in), sl_product_in⟩) (hc_product_in : PySem.W.codeIn K cd_product_in "product_in" = true) (hk_product_in : PySem.W.keepIn K (.ref f_product_in) = true)
    {f_is_idempotent_in : Addr} {od_is_idempotent_in an_is_idempotent_in : Option Addr} {sl_is_idempotent_in : Array (Option Value)} {oc_is_idempotent_in kV_is_idempotent_in dc_is_idempotent_in pm_is_idempotent_in cd_is_idempotent_in ct_is_idempotent_in : Value} (ha_is_idempotent_in : PySem.W.nsIn K mainGlobals "is_idempotent_in" = some (some (.ref f_is_idempotent_in))) (hl_is_idempotent_in : K.lookup f_is_idempotent_in = some ⟨oc_is_idempotent_in, od_is_idempotent_in, .func (PySem.W.fnOf "is_idempotent_in" "is_idempotent_in" (defArgs s_is_idempotent_in) (defBody s_is_idempotent_in) (defScope s_is_idempotent_in) .none kV_is_idempotent_in dc_is_idempotent_in pm_is_idempotent_in an_is_idempotent_in cd_is_idempotent_in ct_is_idempotent_in), sl_is_idempotent_in⟩) (hc_is_idempotent_in : PySem.W.codeIn K cd_is_idempotent_in "is_idempotent_in" = true) (hk_is_idempotent_in : PySem.W.keepIn K (.ref f_is_idempotent_in) = true)
    {f_is_int : Addr} {od_is_int an_is_int : Option Addr} {sl_is_int : Array (Option Value)} {oc_is_int kV_is_int dc_is_int pm_is_int cd_is_int ct_is_int : Value} (ha_is_int : PySem.W.nsIn K mainGlobals "is_int" = some (some (.ref f_is_int))) (hl_is_int : K.lookup f_is_int = some ⟨oc_is_int, od_is_int, .func (PySem.W.fnOf "is_int" "is_int" (defArgs s_is_int) (defBody s_is_int) (defScope s_is_int) .none kV_is_int dc_is_int pm_is_int an_is_int cd_is_int ct_is_int), sl_is_int⟩) (hc_is_int : PySem.W.codeIn K cd_is_int "is_int" = true) (hk_is_int : PySem.W.keepIn K (.ref f_is_int) = true)
    {f_within : Addr} {od_within an_within : Option Addr} {sl_within : Array (Option Value)} {oc_within kV_within dc_within pm_within cd_within ct_within : Value} (ha_within : PySem.W.nsIn K mainGlobals "within" = some (some (.ref f_within))) (hl_within : K.lookup f_within = some ⟨oc_within, od_within, .func (PySem.W.fnOf "within" "within" (defArgs s_within) (defBody s_within) (defScope s_within) .none kV_within dc_within pm_within an_within cd_within ct_within), sl_within⟩) (hc_within : PySem.W.codeIn K cd_within "within" = true) (hk_within : PySem.W.keepIn K (.ref f_within) = true)
    {f_are_within : Addr} {od_are_within an_are_within : Option Addr} {sl_are_within : Array (Option Value)} {oc_are_within kV_are_within dc_are_within pm_are_within cd_are_within ct_are_within : Value} (ha_are_within : PySem.W.nsIn K mainGlobals "are_within" = some (some (.ref f_are_within))) (hl_are_within : K.lookup f_are_within = some ⟨oc_are_within, od_are_within, .func (PySem.W.fnOf "are_within" "are_within" (defArgs s_are_within) (defBody s_are_within) (defScope s_are_within) .none kV_are_within dc_are_within pm_are_within an_are_within cd_are_within ct_are_within), sl_are_within⟩) (hc_are_within : PySem.W.codeIn K cd_are_within "are_within" = true) (hk_are_within : PySem.W.keepIn K (.ref f_are_within) = true)
    {f_is_row : Addr} {od_is_row an_is_row : Option Addr} {sl_is_row : Array (Option Value)} {oc_is_row kV_is_row dc_is_row pm_is_row cd_is_row ct_is_row : Value} (ha_is_row : PySem.W.nsIn K mainGlobals "is_row" = some (some (.ref f_is_row))) (hl_is_row : K.lookup f_is_row = some ⟨oc_is_row, od_is_row, .func (PySem.W.fnOf "is_row" "is_row" (defArgs s_is_row) (defBody s_is_row) (defScope s_is_row) .none kV_is_row dc_is_row pm_is_row an_is_row cd_is_row ct_is_row), sl_is_row⟩) (hc_is_row : PySem.W.codeIn K cd_is_row "is_row" = true) (hk_is_row : PySem.W.keepIn K (.ref f_is_row) = true)
    {f_is_matrix_of : Addr} {od_is_matrix_of an_is_matrix_of : Option Addr} {sl_is_matrix_of : Array (Option Value)} {oc_is_matrix_of kV_is_matrix_of dc_is_matrix_of pm_is_matrix_of cd_is_matrix_of ct_is_matrix_of : Value} (ha_is_matrix_of : PySem.W.nsIn K mainGlobals "is_matrix_of" = some (some (.ref f_is_matrix_of))) (hl_is_matrix_of : K.lookup f_is_matrix_of = some ⟨oc_is_matrix_of, od_is_matrix_of, .func (PySem.W.fnOf "is_matrix_of" "is_matrix_of" (defArgs s_is_matrix_of) (defBody s_is_matrix_of) (defScope s_is_matrix_of) .none kV_is_matrix_of dc_is_matrix_of pm_is_matrix_of an_is_matrix_of cd_is_matrix_of ct_is_matrix_of), sl_is_matrix_of⟩) (hc_is_matrix_of : PySem.W.codeIn K cd_is_matrix_of "is_matrix_of" = true) (hk_is_matrix_of : PySem.W.keepIn K (.ref f_is_matrix_of) = true)
    {f_need_matrix : Addr} {od_need_matrix an_need_matrix : Option Addr} {sl_need_matrix : Array (Option Value)} {oc_need_matrix kV_need_matrix dc_need_matrix pm_need_matrix cd_need_matrix ct_need_matrix : Value} (ha_need_matrix : PySem.W.nsIn K mainGlobals "need_matrix" = some (some (.ref f_need_matrix))) (hl_need_matrix : K.lookup f_need_matrix = some ⟨oc_need_matrix, od_need_matrix, .func (PySem.W.fnOf "need_matrix" "need_matrix" (defArgs s_need_matrix) (defBody s_need_matrix) (defScope s_need_matrix) .none kV_need_matrix dc_need_matrix pm_need_matrix an_need_matrix cd_need_matrix ct_need_matrix), sl_need_matrix⟩) (hc_need_matrix : PySem.W.codeIn K cd_need_matrix "need_matrix" = true) (hk_need_matrix : PySem.W.keepIn K (.ref f_need_matrix) = true)
    {f_stabilised : Addr} {od_stabilised an_stabilised : Option Addr} {sl_stabilised : Array (Option Value)} {oc_stabilised kV_stabilised dc_stabilised pm_stabilised cd_stabilised ct_stabilised : Value} (ha_stabilised : PySem.W.nsIn K mainGlobals "stabilised" = some (some (.ref f_stabilised))) (hl_stabilised : K.lookup f_stabilised = some ⟨oc_stabilised, od_stabilised, .func (PySem.W.fnOf "stabilised" "stabilised" (defArgs s_stabilised) (defBody s_stabilised) (defScope s_stabilised) .none kV_stabilised dc_stabilised pm_stabilised an_stabilised cd_stabilised ct_stabilised), sl_stabilised⟩) (hc_stabilised : PySem.W.codeIn K cd_stabilised "stabilised" = true) (hk_stabilised : PySem.W.keepIn K (.ref f_stabilised) = true)
    {f__law_exchanged : Addr} {od__law_exchanged an__law_exchanged : Option Addr} {sl__law_exchanged : Array (Option Value)} {oc__law_exchanged kV__law_exchanged dc__law_exchanged pm__law_exchanged cd__law_exchanged ct__law_exchanged : Value} (ha__law_exchanged : PySem.W.nsIn K mainGlobals "_law_exchanged" = some (some (.ref f__law_exchanged))) (hl__law_exchanged : K.lookup f__law_exchanged = some ⟨oc__law_exchanged, od__law_exchanged, .func (PySem.W.fnOf "_law_exchanged" "_law_exchanged" (defArgs s__law_exchanged) (defBody s__law_exchanged) (defScope s__law_exchanged) .none kV__law_exchanged dc__law_exchanged pm__law_exchanged an__law_exchanged cd__law_exchanged ct__law_exchanged), sl__law_exchanged⟩) (hc__law_exchanged : PySem.W.codeIn K cd__law_exchanged "_law_exchanged" = true) (hk__law_exchanged : PySem.W.keepIn K (.ref f__law_exchanged) = true)
    {f__law_draw : Addr} {od__law_draw an__law_draw : Option Addr} {sl__law_draw : Array (Option Value)} {oc__law_draw kV__law_draw dc__law_draw pm__law_draw cd__law_draw ct__law_draw : Value} (ha__law_draw : PySem.W.nsIn K mainGlobals "_law_draw" = some (some (.ref f__law_draw))) (hl__law_draw : K.lookup f__law_draw = some ⟨oc__law_draw, od__law_draw, .func (PySem.W.fnOf "_law_draw" "_law_draw" (defArgs s__law_draw) (defBody s__law_draw) (defScope s__law_draw) .none kV__law_draw dc__law_draw pm__law_draw an__law_draw cd__law_draw ct__law_draw), sl__law_draw⟩) (hc__law_draw : PySem.W.codeIn K cd__law_draw "_law_draw" = true) (hk__law_draw : PySem.W.keepIn K (.ref f__law_draw) = true)
    {f_need_two : Addr} {od_need_two an_need_two : Option Addr} {sl_need_two : Array (Option Value)} {oc_need_two kV_need_two dc_need_two pm_need_two cd_need_two ct_need_two : Value} (ha_need_two : PySem.W.nsIn K mainGlobals "need_two" = some (some (.ref f_need_two))) (hl_need_two : K.lookup f_need_two = some ⟨oc_need_two, od_need_two, .func (PySem.W.fnOf "need_two" "need_two" (defArgs s_need_two) (defBody s_need_two) (defScope s_need_two) .none kV_need_two dc_need_two pm_need_two an_need_two cd_need_two ct_need_two), sl_need_two⟩) (hc_need_two : PySem.W.codeIn K cd_need_two "need_two" = true) (hk_need_two : PySem.W.keepIn K (.ref f_need_two) = true)
    {f_product : Addr} {od_product an_product : Option Addr} {sl_product : Array (Option Value)} {oc_product kV_product dc_product pm_product cd_product ct_product : Value} (ha_product : PySem.W.nsIn K mainGlobals "product" = some (some (.ref f_product))) (hl_product : K.lookup f_product = some ⟨oc_product, od_product, .func (PySem.W.fnOf "product" "product" (defArgs s_product) (defBody s_product) (defScope s_product) .none kV_product dc_product pm_product an_product cd_product ct_product), sl_product⟩) (hc_product : PySem.W.codeIn K cd_product "product" = true) (hk_product : PySem.W.keepIn K (.ref f_product) = true)
    {f_is_at_most : Addr} {od_is_at_most an_is_at_most : Option Addr} {sl_is_at_most : Array (Option Value)} {oc_is_at_most kV_is_at_most dc_is_at_most pm_is_at_most cd_is_at_most ct_is_at_most : Value} (ha_is_at_most : PySem.W.nsIn K mainGlobals "is_at_most" = some (some (.ref f_is_at_most))) (hl_is_at_most : K.lookup f_is_at_most = some ⟨oc_is_at_most, od_is_at_most, .func (PySem.W.fnOf "is_at_most" "is_at_most" (defArgs s_is_at_most) (defBody s_is_at_most) (defScope s_is_at_most) .none kV_is_at_most dc_is_at_most pm_is_at_most an_is_at_most cd_is_at_most ct_is_at_most), sl_is_at_most⟩) (hc_is_at_most : PySem.W.codeIn K cd_is_at_most "is_at_most" = true) (hk_is_at_most : PySem.W.keepIn K (.ref f_is_at_most) = true)
    {f_is_idempotent : Addr} {od_is_idempotent an_is_idempotent : Option Addr} {sl_is_idempotent : Array (Option Value)} {oc_is_idempotent kV_is_idempotent dc_is_idempotent pm_is_idempotent cd_is_idempotent ct_is_idempotent : Value} (ha_is_idempotent : PySem.W.nsIn K mainGlobals "is_idempotent" = some (some (.ref f_is_idempotent))) (hl_is_idempotent : K.lookup f_is_idempotent = some ⟨oc_is_idempotent, od_is_idempotent, .func (PySem.W.fnOf "is_idempotent" "is_idempotent" (defArgs s_is_idempotent) (defBody s_is_idempotent) (defScope s_is_idempotent) .none kV_is_idempotent dc_is_idempotent pm_is_idempotent an_is_idempotent cd_is_idempotent ct_is_idempotent), sl_is_idempotent⟩) (hc_is_idempotent : PySem.W.codeIn K cd_is_idempotent "is_idempotent" = true) (hk_is_idempotent : PySem.W.keepIn K (.ref f_is_idempotent) = true)
    {f__law_stable : Addr} {od__law_stable an__law_stable : Option Addr} {sl__law_stable : Array (Option Value)} {oc__law_stable kV__law_stable dc__law_stable pm__law_stable cd__law_stable ct__law_stable : Value} (ha__law_stable : PySem.W.nsIn K mainGlobals "_law_stable" = some (some (.ref f__law_stable))) (hl__law_stable : K.lookup f__law_stable = some ⟨oc__law_stable, od__law_stable, .func (PySem.W.fnOf "_law_stable" "_law_stable" (defArgs s__law_stable) (defBody s__law_stable) (defScope s__law_stable) .none kV__law_stable dc__law_stable pm__law_stable an__law_stable cd__law_stable ct__law_stable), sl__law_stable⟩) (hc__law_stable : PySem.W.codeIn K cd__law_stable "_law_stable" = true) (hk__law_stable : PySem.W.keepIn K (.ref f__law_stable) = true)
    {f__law_times : Addr} {od__law_times an__law_times : Option Addr} {sl__law_times : Array (Option Value)} {oc__law_times kV__law_times dc__law_times pm__law_times cd__law_times ct__law_times : Value} (ha__law_times : PySem.W.nsIn K mainGlobals "_law_times" = some (some (.ref f__law_times))) (hl__law_times : K.lookup f__law_times = some ⟨oc__law_times, od__law_times, .func (PySem.W.fnOf "_law_times" "_law_times" (defArgs s__law_times) (defBody s__law_times) (defScope s__law_times) .none kV__law_times dc__law_times pm__law_times an__law_times cd__law_times ct__law_times), sl__law_times⟩) (hc__law_times : PySem.W.codeIn K cd__law_times "_law_times" = true) (hk__law_times : PySem.W.keepIn K (.ref f__law_times) = true)
    {f__law_is_idempotent : Addr} {od__law_is_idempotent an__law_is_idempotent : Option Addr} {sl__law_is_idempotent : Array (Option Value)} {oc__law_is_idempotent kV__law_is_idempotent dc__law_is_idempotent pm__law_is_idempotent cd__law_is_idempotent ct__law_is_idempotent : Value} (ha__law_is_idempotent : PySem.W.nsIn K mainGlobals "_law_is_idempotent" = some (some (.ref f__law_is_idempotent))) (hl__law_is_idempotent : K.lookup f__law_is_idempotent = some ⟨oc__law_is_idempotent, od__law_is_idempotent, .func (PySem.W.fnOf "_law_is_idempotent" "_law_is_idempotent" (defArgs s__law_is_idempotent) (defBody s__law_is_idempotent) (defScope s__law_is_idempotent) .none kV__law_is_idempotent dc__law_is_idempotent pm__law_is_idempotent an__law_is_idempotent cd__law_is_idempotent ct__law_is_idempotent), sl__law_is_idempotent⟩) (hc__law_is_idempotent : PySem.W.codeIn K cd__law_is_idempotent "_law_is_idempotent" = true) (hk__law_is_idempotent : PySem.W.keepIn K (.ref f__law_is_idempotent) = true)
    {f__law_power : Addr} {od__law_power an__law_power : Option Addr} {sl__law_power : Array (Option Value)} {oc__law_power kV__law_power dc__law_power pm__law_power cd__law_power ct__law_power : Value} (ha__law_power : PySem.W.nsIn K mainGlobals "_law_power" = some (some (.ref f__law_power))) (hl__law_power : K.lookup f__law_power = some ⟨oc__law_power, od__law_power, .func (PySem.W.fnOf "_law_power" "_law_power" (defArgs s__law_power) (defBody s__law_power) (defScope s__law_power) .none kV__law_power dc__law_power pm__law_power an__law_power cd__law_power ct__law_power), sl__law_power⟩) (hc__law_power : PySem.W.codeIn K cd__law_power "_law_power" = true) (hk__law_power : PySem.W.keepIn K (.ref f__law_power) = true)
    {f__law_matrix : Addr} {od__law_matrix an__law_matrix : Option Addr} {sl__law_matrix : Array (Option Value)} {oc__law_matrix kV__law_matrix dc__law_matrix pm__law_matrix cd__law_matrix ct__law_matrix : Value} (ha__law_matrix : PySem.W.nsIn K mainGlobals "_law_matrix" = some (some (.ref f__law_matrix))) (hl__law_matrix : K.lookup f__law_matrix = some ⟨oc__law_matrix, od__law_matrix, .func (PySem.W.fnOf "_law_matrix" "_law_matrix" (defArgs s__law_matrix) (defBody s__law_matrix) (defScope s__law_matrix) .none kV__law_matrix dc__law_matrix pm__law_matrix an__law_matrix cd__law_matrix ct__law_matrix), sl__law_matrix⟩) (hc__law_matrix : PySem.W.codeIn K cd__law_matrix "_law_matrix" = true) (hk__law_matrix : PySem.W.keepIn K (.ref f__law_matrix) = true)
    {f__law_idempotent : Addr} {od__law_idempotent an__law_idempotent : Option Addr} {sl__law_idempotent : Array (Option Value)} {oc__law_idempotent kV__law_idempotent dc__law_idempotent pm__law_idempotent cd__law_idempotent ct__law_idempotent : Value} (ha__law_idempotent : PySem.W.nsIn K mainGlobals "_law_idempotent" = some (some (.ref f__law_idempotent))) (hl__law_idempotent : K.lookup f__law_idempotent = some ⟨oc__law_idempotent, od__law_idempotent, .func (PySem.W.fnOf "_law_idempotent" "_law_idempotent" (defArgs s__law_idempotent) (defBody s__law_idempotent) (defScope s__law_idempotent) .none kV__law_idempotent dc__law_idempotent pm__law_idempotent an__law_idempotent cd__law_idempotent ct__law_idempotent), sl__law_idempotent⟩) (hc__law_idempotent : PySem.W.codeIn K cd__law_idempotent "_law_idempotent" = true) (hk__law_idempotent : PySem.W.keepIn K (.ref f__law_idempotent) = true)
    {f_law : Addr} {od_law an_law : Option Addr} {sl_law : Array (Option Value)} {oc_law kV_law dc_law pm_law cd_law ct_law : Value} (ha_law : PySem.W.nsIn K mainGlobals "law" = some (some (.ref f_law))) (hl_law : K.lookup f_law = some ⟨oc_law, od_law, .func (PySem.W.fnOf "law" "law" (defArgs s_law) (defBody s_law) (defScope s_law) .none kV_law dc_law pm_law an_law cd_law ct_law), sl_law⟩) (hc_law : PySem.W.codeIn K cd_law "law" = true) (hk_law : PySem.W.keepIn K (.ref f_law) = true)
    (hz_int : PySem.W.nsIn K mainGlobals "int" = some none)
    (hz_min : PySem.W.nsIn K mainGlobals "min" = some none)
    (hz_zip : PySem.W.nsIn K mainGlobals "zip" = some none)
    (hz_max : PySem.W.nsIn K mainGlobals "max" = some none)
    (hz_range : PySem.W.nsIn K mainGlobals "range" = some none)
    (hz_len : PySem.W.nsIn K mainGlobals "len" = some none)
    (hz_tuple : PySem.W.nsIn K mainGlobals "tuple" = some none)
    (hz_isinstance : PySem.W.nsIn K mainGlobals "isinstance" = some none)
    (hz_bool : PySem.W.nsIn K mainGlobals "bool" = some none)
    (hz_all : PySem.W.nsIn K mainGlobals "all" = some none)
    (hz_list : PySem.W.nsIn K mainGlobals "list" = some none)
    {tk_NONE : Tok} (hi_NONE : PySem.W.nsIn K mainGlobals "NONE" = some (some (.int 3 tk_NONE)))
    {tk_MOST_STATES : Tok} (hi_MOST_STATES : PySem.W.nsIn K mainGlobals "MOST_STATES" = some (some (.int 4 tk_MOST_STATES)))
    {C_BadMatrix : Addr} (hx_BadMatrix : PySem.W.nsIn K mainGlobals "BadMatrix" = some (some (.ref C_BadMatrix))) (he_BadMatrix : PySem.W.excIn K C_BadMatrix [.type "ValueError", .type "Exception", .type "BaseException", .type "object"] "ValueError.__new__" = true) (hq_BadMatrix : PySem.W.keepIn K (.ref C_BadMatrix) = true) (hs_BadMatrix : PySem.W.subIn K (.ref C_BadMatrix) (.type "BaseException") = some true) (ht_BadMatrix : PySem.W.typeIn K (.ref C_BadMatrix) = some (.type "type"))
    {C_NotIdempotent : Addr} (hx_NotIdempotent : PySem.W.nsIn K mainGlobals "NotIdempotent" = some (some (.ref C_NotIdempotent))) (he_NotIdempotent : PySem.W.excIn K C_NotIdempotent [.type "ValueError", .type "Exception", .type "BaseException", .type "object"] "ValueError.__new__" = true) (hq_NotIdempotent : PySem.W.keepIn K (.ref C_NotIdempotent) = true) (hs_NotIdempotent : PySem.W.subIn K (.ref C_NotIdempotent) (.type "BaseException") = some true) (ht_NotIdempotent : PySem.W.typeIn K (.ref C_NotIdempotent) = some (.type "type"))
    {C_BadOther : Addr} (hx_BadOther : PySem.W.nsIn K mainGlobals "BadOther" = some (some (.ref C_BadOther))) (he_BadOther : PySem.W.excIn K C_BadOther [.type "ValueError", .type "Exception", .type "BaseException", .type "object"] "ValueError.__new__" = true) (hq_BadOther : PySem.W.keepIn K (.ref C_BadOther) = true) (hs_BadOther : PySem.W.subIn K (.ref C_BadOther) (.type "BaseException") = some true) (ht_BadOther : PySem.W.typeIn K (.ref C_BadOther) = some (.type "type"))
    : ∃ fd : FuncData, (∀ (s : Shared) (v : Value), BindsTo s fd ⟨[v], []⟩ [("script", v)]) ∧ ∀ base : Heap, K.In base → base.Ns mainGlobals mg → FnOk P w K mg base (L2.CX P w) 8 fa fd ["script"] (spLaw K) := by
  have e := hfa.symm.trans (PySem.W.mg_of X G ha_law)
  cases e
  have b_int := PySem.W.mg_none_of X G hz_int
  have b_min := PySem.W.mg_none_of X G hz_min
  have b_zip := PySem.W.mg_none_of X G hz_zip
  have b_max := PySem.W.mg_none_of X G hz_max
  have b_range := PySem.W.mg_none_of X G hz_range
  have b_len := PySem.W.mg_none_of X G hz_len
  have b_tuple := PySem.W.mg_none_of X G hz_tuple
  have b_isinstance := PySem.W.mg_none_of X G hz_isinstance
  have b_bool := PySem.W.mg_none_of X G hz_bool
  have b_all := PySem.W.mg_none_of X G hz_all
  have b_list := PySem.W.mg_none_of X G hz_list
  have g_NONE : GI mg "NONE" 3 := ⟨_, PySem.W.mg_of X G hi_NONE, _, rfl⟩
  have g_MOST_STATES : GI mg "MOST_STATES" 4 := ⟨_, PySem.W.mg_of X G hi_MOST_STATES, _, rfl⟩
  have x_BadMatrix : ExC K mg "BadMatrix" := ⟨C_BadMatrix, PySem.W.mg_of X G hx_BadMatrix, he_BadMatrix, hq_BadMatrix, hs_BadMatrix, ht_BadMatrix⟩
  have x_NotIdempotent : ExC K mg "NotIdempotent" := ⟨C_NotIdempotent, PySem.W.mg_of X G hx_NotIdempotent, he_NotIdempotent, hq_NotIdempotent, hs_NotIdempotent, ht_NotIdempotent⟩
  have x_BadOther : ExC K mg "BadOther" := ⟨C_BadOther, PySem.W.mg_of X G hx_BadOther, he_BadOther, hq_BadOther, hs_BadOther, ht_BadOther⟩
  have fu__law_source := fun_mk (st := s__law_source) hl__law_source hc__law_source hk__law_source
  have fu_product_entry := fun_mk (st := s_product_entry) hl_product_entry hc_product_entry hk_product_entry
  have fu_columns_of := fun_mk (st := s_columns_of) hl_columns_of hc_columns_of hk_columns_of
  have fu_staying_values := fun_mk (st := s_staying_values) hl_staying_values hc_staying_values hk_staying_values
  have fu_stabilised_in := fun_mk (st := s_stabilised_in) hl_stabilised_in hc_stabilised_in hk_stabilised_in
  have fu_product_in := fun_mk (st := s_product_in) hl_product_in hc_product_in hk_product_in
  have fu_is_idempotent_in := fun_mk (st := s_is_idempotent_in) hl_is_idempotent_in hc_is_idempotent_in hk_is_idempotent_in
  have fu_is_int := fun_mk (st := s_is_int) hl_is_int hc_is_int hk_is_int
  have fu_within := fun_mk (st := s_within) hl_within hc_within hk_within
  have fu_are_within := fun_mk (st := s_are_within) hl_are_within hc_are_within hk_are_within
  have fu_is_row := fun_mk (st := s_is_row) hl_is_row hc_is_row hk_is_row
  have fu_is_matrix_of := fun_mk (st := s_is_matrix_of) hl_is_matrix_of hc_is_matrix_of hk_is_matrix_of
  have fu_need_matrix := fun_mk (st := s_need_matrix) hl_need_matrix hc_need_matrix hk_need_matrix
  have fu_stabilised := fun_mk (st := s_stabilised) hl_stabilised hc_stabilised hk_stabilised
  have fu__law_exchanged := fun_mk (st := s__law_exchanged) hl__law_exchanged hc__law_exchanged hk__law_exchanged
  have fu__law_draw := fun_mk (st := s__law_draw) hl__law_draw hc__law_draw hk__law_draw
  have fu_need_two := fun_mk (st := s_need_two) hl_need_two hc_need_two hk_need_two
  have fu_product := fun_mk (st := s_product) hl_product hc_product hk_product
  have fu_is_at_most := fun_mk (st := s_is_at_most) hl_is_at_most hc_is_at_most hk_is_at_most
  have fu_is_idempotent := fun_mk (st := s_is_idempotent) hl_is_idempotent hc_is_idempotent hk_is_idempotent
  have fu__law_stable := fun_mk (st := s__law_stable) hl__law_stable hc__law_stable hk__law_stable
  have fu__law_times := fun_mk (st := s__law_times) hl__law_times hc__law_times hk__law_times
  have fu__law_is_idempotent := fun_mk (st := s__law_is_idempotent) hl__law_is_idempotent hc__law_is_idempotent hk__law_is_idempotent
  have fu__law_power := fun_mk (st := s__law_power) hl__law_power hc__law_power hk__law_power
  have fu__law_matrix := fun_mk (st := s__law_matrix) hl__law_matrix hc__law_matrix hk__law_matrix
  have fu__law_idempotent := fun_mk (st := s__law_idempotent) hl__law_idempotent hc__law_idempotent hk__law_idempotent
  have fu_law := fun_mk (st := s_law) hl_law hc_law hk_law
  refine ⟨PySem.W.fnOf "law" "law" (defArgs s_law) (defBody s_law) (defScope s_law) .none kV_law dc_law pm_law an_law cd_law ct_law, fun s v => .of_eq rfl, fun base _ _ => ?_⟩
  have F_product_entry := fn_product_entry (P := P) (w := w) (mg := mg) (base := base) fu_product_entry (PySem.W.mg_of X G ha_product_entry) b_min b_zip b_max
  have F_columns_of := fn_columns_of (P := P) (w := w) (mg := mg) (base := base) fu_columns_of (PySem.W.mg_of X G ha_columns_of) b_range b_len
  have F_staying_values := fn_staying_values (P := P) (w := w) (mg := mg) (base := base) fu_staying_values (PySem.W.mg_of X G ha_staying_values) b_range b_len g_NONE
  have F_stabilised_in := fn_stabilised_in (P := P) (w := w) (mg := mg) (base := base) fu_stabilised_in (PySem.W.mg_of X G ha_stabilised_in) b_tuple b_zip b_max F_product_entry F_columns_of F_staying_values
  have F_product_in := fn_product_in (P := P) (w := w) (mg := mg) (base := base) fu_product_in (PySem.W.mg_of X G ha_product_in) b_tuple F_product_entry F_columns_of
  have F_is_idempotent_in := fn_is_idempotent_in (P := P) (w := w) (mg := mg) (base := base) fu_is_idempotent_in (PySem.W.mg_of X G ha_is_idempotent_in) F_product_in
  have F_is_int := fn_is_int (P := P) (w := w) (mg := mg) (base := base) fu_is_int (PySem.W.mg_of X G ha_is_int) b_isinstance b_bool b_int
  have F_within := fn_within (P := P) (w := w) (mg := mg) (base := base) fu_within (PySem.W.mg_of X G ha_within) F_is_int
  have F_are_within := fn_are_within (P := P) (w := w) (mg := mg) (base := base) fu_are_within (PySem.W.mg_of X G ha_are_within) b_all b_isinstance b_tuple F_within
  have F_is_row := fn_is_row (P := P) (w := w) (mg := mg) (base := base) fu_is_row (PySem.W.mg_of X G ha_is_row) b_len b_isinstance b_tuple
  have F_is_matrix_of := fn_is_matrix_of (P := P) (w := w) (mg := mg) (base := base) fu_is_matrix_of (PySem.W.mg_of X G ha_is_matrix_of) b_all b_len g_NONE F_are_within F_is_row
  have F_need_matrix := fn_need_matrix (P := P) (w := w) (mg := mg) (base := base) fu_need_matrix (PySem.W.mg_of X G ha_need_matrix) b_len g_MOST_STATES x_BadMatrix F_is_matrix_of F_is_row
  have F_stabilised := fn_stabilised (P := P) (w := w) (mg := mg) (base := base) fu_stabilised (PySem.W.mg_of X G ha_stabilised) x_NotIdempotent F_stabilised_in F_is_idempotent_in F_need_matrix
  have F__law_exchanged := fn__law_exchanged (P := P) (w := w) (mg := mg) (base := base) fu__law_exchanged (PySem.W.mg_of X G ha__law_exchanged) b_tuple
  have F__law_draw := fn__law_draw (P := P) (w := w) (mg := mg) (base := base) fu__law_draw (PySem.W.mg_of X G ha__law_draw) b_int b_len
  have F_need_two := fn_need_two (P := P) (w := w) (mg := mg) (base := base) fu_need_two (PySem.W.mg_of X G ha_need_two) b_len x_BadOther F_is_matrix_of F_need_matrix
  have F_product := fn_product (P := P) (w := w) (mg := mg) (base := base) fu_product (PySem.W.mg_of X G ha_product) F_product_in F_need_two
  have F_is_at_most := fn_is_at_most (P := P) (w := w) (mg := mg) (base := base) fu_is_at_most (PySem.W.mg_of X G ha_is_at_most) b_all b_zip F_need_two
  have F_is_idempotent := fn_is_idempotent (P := P) (w := w) (mg := mg) (base := base) fu_is_idempotent (PySem.W.mg_of X G ha_is_idempotent) F_is_idempotent_in F_need_matrix
  have F__law_stable := fn__law_stable (P := P) (w := w) (mg := mg) (base := base) fu__law_stable (PySem.W.mg_of X G ha__law_stable) b_tuple b_min b_max b_list b_range b_len
  have F__law_times := fn__law_times (P := P) (w := w) (mg := mg) (base := base) fu__law_times (PySem.W.mg_of X G ha__law_times) b_tuple b_min b_max b_list b_range b_len
  have F__law_is_idempotent := fn__law_is_idempotent (P := P) (w := w) (mg := mg) (base := base) fu__law_is_idempotent (PySem.W.mg_of X G ha__law_is_idempotent) F__law_times
  have F__law_power := fn__law_power (P := P) (w := w) (mg := mg) (base := base) fu__law_power (PySem.W.mg_of X G ha__law_power) b_range F__law_times F__law_is_idempotent
  have F__law_matrix := fn__law_matrix (P := P) (w := w) (mg := mg) (base := base) fu__law_matrix (PySem.W.mg_of X G ha__law_matrix) b_tuple b_range b_len F__law_draw
  have F__law_idempotent := fn__law_idempotent (P := P) (w := w) (mg := mg) (base := base) fu__law_idempotent (PySem.W.mg_of X G ha__law_idempotent) F__law_power F__law_matrix
  exact fn_law (P := P) (w := w) (mg := mg) (base := base) fu_law fu__law_source (PySem.W.mg_of X G ha__law_source) b_int b_range b_list b_zip F_stabilised F__law_exchanged F__law_draw F_product F_is_at_most F_is_idempotent F__law_stable F__law_idempotent law_run
end
end Cw
open PySem PySem.W PyProof.Rows
set_option maxHeartbeats 0 in
theorem PySem.Challenge.cw_costsworn_k12_stabilised_matrices_holds : PySem.Challenge.rw_costsworn_k12_stabilised_matrices.Holds := by
  w_on; o_law; k_head; (case hw => w_witness2)
  k_fill
  refine L2.walk_of (l := PySem.Challenge.rw_costsworn_k12_stabilised_matrices) (n := 63) (k := 8) (x := "script") (CX := fun w => L2.CX PySem.Challenge.rw_costsworn_k12_stabilised_matrices.prog w) (sp := fun w => Cw.spLaw _) rfl (by decide) rfl ⟨rfl, by decide, by decide⟩ (fun w h Y => PySem.W.kIn_of Y) ?F (fun _ _ a ns hl hO hS => ⟨a, ns, rfl, Cw.scOk_of hO hS, hl, fun _ => rfl⟩) (fun _ _ _ _ _ h => by obtain ⟨_, _, _, _, _, _, _, _, _, _, _, _, f⟩ := h; exact f)
  case F =>
    intro w mg fa h KX G hmg
    refine' Cw.all_mk KX G hmg ?ha__law_source ?hl__law_source ?hc__law_source ?hk__law_source ?ha_product_entry ?hl_product_entry ?hc_product_entry ?hk_product_entry ?ha_columns_of ?hl_columns_of ?hc_columns_of ?hk_columns_of ?ha_staying_values ?hl_staying_values ?hc_staying_values ?hk_staying_values ?ha_stabilised_in ?hl_stabilised_in ?hc_stabilised_in ?hk_stabilised_in ?ha_product_in ?hl_product_in ?hc_product_in ?hk_product_in ?ha_is_idempotent_in ?hl_is_idempotent_in ?hc_is_idempotent_in ?hk_is_idempotent_in ?ha_is_int ?hl_is_int ?hc_is_int ?hk_is_int ?ha_within ?hl_within ?hc_within ?hk_within ?ha_are_within ?hl_are_within ?hc_are_within ?hk_are_within ?ha_is_row ?hl_is_row ?hc_is_row ?hk_is_row ?ha_is_matrix_of ?hl_is_matrix_of ?hc_is_matrix_of ?hk_is_matrix_of ?ha_need_matrix ?hl_need_matrix ?hc_need_matrix ?hk_need_matrix ?ha_stabilised ?hl_stabilised ?hc_stabilised ?hk_stabilised ?ha__law_exchanged ?hl__law_exchanged ?hc__law_exchanged ?hk__law_exchanged ?ha__law_draw ?hl__law_draw ?hc__law_draw ?hk__law_draw ?ha_need_two ?hl_need_two ?hc_need_two ?hk_need_two ?ha_product ?hl_product ?hc_product ?hk_product ?ha_is_at_most ?hl_is_at_most ?hc_is_at_most ?hk_is_at_most ?ha_is_idempotent ?hl_is_idempotent ?hc_is_idempotent ?hk_is_idempotent ?ha__law_stable ?hl__law_stable ?hc__law_stable ?hk__law_stable ?ha__law_times ?hl__law_times ?hc__law_times ?hk__law_times ?ha__law_is_idempotent ?hl__law_is_idempotent ?hc__law_is_idempotent ?hk__law_is_idempotent ?ha__law_power ?hl__law_power ?hc__law_power ?hk__law_power ?ha__law_matrix ?hl__law_matrix ?hc__law_matrix ?hk__law_matrix ?ha__law_idempotent ?hl__law_idempotent ?hc__law_idempotent ?hk__law_idempotent ?ha_law ?hl_law ?hc_law ?hk_law ?hz_int ?hz_min ?hz_zip ?hz_max ?hz_range ?hz_len ?hz_tuple ?hz_isinstance ?hz_bool ?hz_all ?hz_list ?hi_NONE ?hi_MOST_STATES ?hx_BadMatrix ?he_BadMatrix ?hq_BadMatrix ?hs_BadMatrix ?ht_BadMatrix ?hx_NotIdempotent ?he_NotIdempotent ?hq_NotIdempotent ?hs_NotIdempotent ?ht_NotIdempotent ?hx_BadOther ?he_BadOther ?hq_BadOther ?hs_BadOther ?ht_BadOther
    (case ha__law_source => k_is)
    (case hl__law_source => k_is)
    (case hc__law_source => k_is)
    (case hk__law_source => k_is)
    (case ha_product_entry => k_is)
    (case hl_product_entry => k_is)
    (case hc_product_entry => k_is)
    (case hk_product_entry => k_is)
    (case ha_columns_of => k_is)
    (case hl_columns_of => k_is)
    (case hc_columns_of => k_is)
    (case hk_columns_of => k_is)
    (case ha_staying_values => k_is)
    (case hl_staying_values => k_is)
    (case hc_staying_values => k_is)
    (case hk_staying_values => k_is)
    (case ha_stabilised_in => k_is)
    (case hl_stabilised_in => k_is)
    (case hc_stabilised_in => k_is)
    (case hk_stabilised_in => k_is)
    (case ha_product_in => k_is)
    (case hl_product_in => k_is)
    (case hc_product_in => k_is)
    (case hk_product_in => k_is)
    (case ha_is_idempotent_in => k_is)
    (case hl_is_idempotent_in => k_is)
    (case hc_is_idempotent_in => k_is)
    (case hk_is_idempotent_in => k_is)
    (case ha_is_int => k_is)
    (case hl_is_int => k_is)
    (case hc_is_int => k_is)
    (case hk_is_int => k_is)
    (case ha_within => k_is)
    (case hl_within => k_is)
    (case hc_within => k_is)
    (case hk_within => k_is)
    (case ha_are_within => k_is)
    (case hl_are_within => k_is)
    (case hc_are_within => k_is)
    (case hk_are_within => k_is)
    (case ha_is_row => k_is)
    (case hl_is_row => k_is)
    (case hc_is_row => k_is)
    (case hk_is_row => k_is)
    (case ha_is_matrix_of => k_is)
    (case hl_is_matrix_of => k_is)
    (case hc_is_matrix_of => k_is)
    (case hk_is_matrix_of => k_is)
    (case ha_need_matrix => k_is)
    (case hl_need_matrix => k_is)
    (case hc_need_matrix => k_is)
    (case hk_need_matrix => k_is)
    (case ha_stabilised => k_is)
    (case hl_stabilised => k_is)
    (case hc_stabilised => k_is)
    (case hk_stabilised => k_is)
    (case ha__law_exchanged => k_is)
    (case hl__law_exchanged => k_is)
    (case hc__law_exchanged => k_is)
    (case hk__law_exchanged => k_is)
    (case ha__law_draw => k_is)
    (case hl__law_draw => k_is)
    (case hc__law_draw => k_is)
    (case hk__law_draw => k_is)
    (case ha_need_two => k_is)
    (case hl_need_two => k_is)
    (case hc_need_two => k_is)
    (case hk_need_two => k_is)
    (case ha_product => k_is)
    (case hl_product => k_is)
    (case hc_product => k_is)
    (case hk_product => k_is)
    (case ha_is_at_most => k_is)
    (case hl_is_at_most => k_is)
    (case hc_is_at_most => k_is)
    (case hk_is_at_most => k_is)
    (case ha_is_idempotent => k_is)
    (case hl_is_idempotent => k_is)
    (case hc_is_idempotent => k_is)
    (case hk_is_idempotent => k_is)
    (case ha__law_stable => k_is)
    (case hl__law_stable => k_is)
    (case hc__law_stable => k_is)
    (case hk__law_stable => k_is)
    (case ha__law_times => k_is)
    (case hl__law_times => k_is)
    (case hc__law_times => k_is)
    (case hk__law_times => k_is)
    (case ha__law_is_idempotent => k_is)
    (case hl__law_is_idempotent => k_is)
    (case hc__law_is_idempotent => k_is)
    (case hk__law_is_idempotent => k_is)
    (case ha__law_power => k_is)
    (case hl__law_power => k_is)
    (case hc__law_power => k_is)
    (case hk__law_power => k_is)
    (case ha__law_matrix => k_is)
    (case hl__law_matrix => k_is)
    (case hc__law_matrix => k_is)
    (case hk__law_matrix => k_is)
    (case ha__law_idempotent => k_is)
    (case hl__law_idempotent => k_is)
    (case hc__law_idempotent => k_is)
    (case hk__law_idempotent => k_is)
    (case ha_law => k_is)
    (case hl_law => k_is)
    (case hc_law => k_is)
    (case hk_law => k_is)
    (case hz_int => k_is)
    (case hz_min => k_is)
    (case hz_zip => k_is)
    (case hz_max => k_is)
    (case hz_range => k_is)
    (case hz_len => k_is)
    (case hz_tuple => k_is)
    (case hz_isinstance => k_is)
    (case hz_bool => k_is)
    (case hz_all => k_is)
    (case hz_list => k_is)
    (case hi_NONE => k_is)
    (case hi_MOST_STATES => k_is)
    (case hx_BadMatrix => k_is)
    (case he_BadMatrix => k_exc)
    (case hq_BadMatrix => k_is)
    (case hs_BadMatrix => k_is)
    (case ht_BadMatrix => k_is)
    (case hx_NotIdempotent => k_is)
    (case he_NotIdempotent => k_exc)
    (case hq_NotIdempotent => k_is)
    (case hs_NotIdempotent => k_is)
    (case ht_NotIdempotent => k_is)
    (case hx_BadOther => k_is)
    (case he_BadOther => k_exc)
    (case hq_BadOther => k_is)
    (case hs_BadOther => k_is)
    (case ht_BadOther => k_is)
