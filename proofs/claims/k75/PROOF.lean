import PyProof.Rows.All
import Wide.All
import OpenK.AllK
import Wide.FinOn
import HandS.ForMost
import HandS.Iter
import KE.GoesMore
import KE.GoesEnum
import KE.GoesEnumKw
import KE.GoesZip
import HandS.Walk
import HandS.Star
import HandS.Wide
import HandS.TupAny
import HandS.TupMul
import HandS.Style
import HandS.IsInst
import HandS.RaiseMore
import HandS.Defaults
import HandS.SortKw
import KE.SortData
import HandS.OwnEq
import PyProof.InstNe
import HandS.Conv
import HandS.Strs
import HandS.Deep
import HandS.Dict
import KE.KEqDeep
import HandS.List
import KE.KRevSl
import HandS.Exc
import HandS.ExcInit
import HandS.TryOnly
import HandS.Lambda
import KE.KExcSuper
import KE.KTupSum
import KE.DatumOrd
import PyProof.ReprRoads
import HandS.FStrTup
import PyProof.ReprLen
import HandS.Head0
import HandS.Head1
import HandS.Head2
import HandS.HeadEnd
import HandS.HeadHook1
import HandS.HeadHook2
import HandS.HeadHook3
import HandS.HeadHook4
import HandS.EndTab
import HandS.HeadWalk
import PySem.Challenge.RW_codenests_k75_cross_tables
section
set_option Elab.async false
set_option linter.all false
set_option maxRecDepth 100000
set_option maxHeartbeats 2000000
/-! The layer: data as trees, states by what their slots hold. -/
namespace Ly
open PySem L2

/-! ### data -/
inductive Dt where
  | non | bl (b : Bool) | int (i : Int) | str (x : Str) | ty (n : String)
  | tup (xs : List Dt) | lst (xs : List Dt)
  | ins (C : Addr) (fs : List (Str × Dt))
  | dct (kvs : List (Key × Dt))
  | raw (v : V)

/-- kinds of objects that never change while they are looked at as data -/
def Still : HO → Prop
  | .tup _ => True
  | .frz _ _ => True
  | .ins _ _ _ => True
  | _ => False

mutual
inductive Is (K : PySem.W.Frag) (M : Addr → Prop) (H : Hp) : Dt → V → Prop
  | non : Is K M H .non .non
  | bl (b : Bool) : Is K M H (.bl b) (.bl b)
  | int (i : Int) : Is K M H (.int i) (.int i)
  | str (x : Str) : Is K M H (.str x) (.str x)
  | ty (n : String) : Is K M H (.ty n) (.ty n)
  | tup {a : Addr} {xs : List V} {ds : List Dt} : SqT K H a xs → IsL K M H ds xs → Is K M H (.tup ds) (.ref a)
  | lst {a : Addr} {xs : List V} {ds : List Dt} : H a = some (.lst xs) → ¬ M a → IsL K M H ds xs → Is K M H (.lst ds) (.ref a)
  | ins {a C dx : Addr} {vs : List (Str × V)} {fs : List (Str × Dt)} : H a = some (.ins C dx vs) → IsF K M H fs vs → Is K M H (.ins C fs) (.ref a)
  | dct {a : Addr} {vs : List (Key × V)} {fs : List (Key × Dt)} : H a = some (.dK vs) → ¬ M a → IsK K M H fs vs → Is K M H (.dct fs) (.ref a)
  | raw (v : V) : Is K M H (.raw v) v
inductive IsL (K : PySem.W.Frag) (M : Addr → Prop) (H : Hp) : List Dt → List V → Prop
  | nil : IsL K M H [] []
  | cons {d : Dt} {v : V} {ds : List Dt} {vs : List V} : Is K M H d v → IsL K M H ds vs → IsL K M H (d :: ds) (v :: vs)
inductive IsF (K : PySem.W.Frag) (M : Addr → Prop) (H : Hp) : List (Str × Dt) → List (Str × V) → Prop
  | nil : IsF K M H [] []
  | cons {n : Str} {d : Dt} {v : V} {ds : List (Str × Dt)} {vs : List (Str × V)} : Is K M H d v → IsF K M H ds vs → IsF K M H ((n, d) :: ds) ((n, v) :: vs)
inductive IsK (K : PySem.W.Frag) (M : Addr → Prop) (H : Hp) : List (Key × Dt) → List (Key × V) → Prop
  | nil : IsK K M H [] []
  | cons {n : Key} {d : Dt} {v : V} {ds : List (Key × Dt)} {vs : List (Key × V)} : Is K M H d v → IsK K M H ds vs → IsK K M H ((n, d) :: ds) ((n, v) :: vs)
end

/-- all is as it was but what may change -/
def Gm (M : Addr → Prop) (H H' : Hp) : Prop := ∀ b o, H b = some o → (M b → Still o) → H' b = some o
theorem Gm.refl {M : Addr → Prop} (H : Hp) : Gm M H H := fun _ _ h _ => h
theorem Gm.trans {M : Addr → Prop} {H H1 H2 : Hp} (a : Gm M H H1) (b : Gm M H1 H2) : Gm M H H2 := fun x o h m => b x o (a x o h m) m
theorem Gm.weak {M M' : Addr → Prop} {H H' : Hp} (h : ∀ b, M b → M' b) (a : Gm M H H') : Gm M' H H' := fun x o e m => a x o e fun z => m (h x z)
theorem Gm.ofEx {M : Addr → Prop} {H H' : Hp} (a : ∀ b o, H b = some o → H' b = some o) : Gm M H H' := fun x o h _ => a x o h
def Ex (H H' : Hp) : Prop := ∀ b o, H b = some o → H' b = some o
theorem Ex.refl (H : Hp) : Ex H H := fun _ _ h => h
theorem Ex.trans {H H1 H2 : Hp} (a : Ex H H1) (b : Ex H1 H2) : Ex H H2 := fun x o h => b x o (a x o h)
theorem Ex.new {H : Hp} {p : Addr} {o : HO} (h : H p = none) : Ex H (upd H p o) := fun a u e => by
  rw [upd_ne (ne_of_none e h)]
  exact e
theorem Gm.new {M : Addr → Prop} {H : Hp} {p : Addr} {o : HO} (h : H p = none) : Gm M H (upd H p o) := Gm.ofEx (Ex.new h)
theorem Gm.back {M : Addr → Prop} {H H' : Hp} {p : Addr} (a : Gm M H H') (nm : ∀ b, M b → H' b ≠ none) (h : H' p = none) : H p = none := by
  cases e : H p with
  | none => rfl
  | some o =>
    have := a p o e (fun m => absurd h (nm p m))
    rw [h] at this
    cases this

section
variable {K : PySem.W.Frag} {M M' : Addr → Prop} {H H' : Hp}
theorem rd_gm {a : Addr} {u : HO} (e : Gm M H H') (hu : M a → Still u) (h : Rd H a u) : Rd H' a u := by
  rcases h with h | ⟨o, h⟩
  · exact .inl (e a _ h hu)
  · exact .inr ⟨o, e a _ h fun _ => trivial⟩
theorem sqt_gm {a : Addr} {xs : List V} (e : Gm M H H') (h : SqT K H a xs) : SqT K H' a xs := by
  rcases h with h | h
  · exact .inl (rd_gm e (fun _ => trivial) h)
  · exact .inr h
mutual
theorem Is.mono (e : Gm M H H') : ∀ {d : Dt} {v : V}, Is K M H d v → Is K M H' d v
  | _, _, .non => .non
  | _, _, .bl b => .bl b
  | _, _, .int i => .int i
  | _, _, .str x => .str x
  | _, _, .ty n => .ty n
  | _, _, .tup h l => .tup (sqt_gm e h) (IsL.mono e l)
  | _, _, .lst h n l => .lst (e _ _ h fun m => absurd m n) n (IsL.mono e l)
  | _, _, .ins h l => .ins (e _ _ h fun _ => trivial) (IsF.mono e l)
  | _, _, .dct h n l => .dct (e _ _ h fun m => absurd m n) n (IsK.mono e l)
  | _, _, .raw v => .raw v
theorem IsL.mono (e : Gm M H H') : ∀ {ds : List Dt} {vs : List V}, IsL K M H ds vs → IsL K M H' ds vs
  | _, _, .nil => .nil
  | _, _, .cons h l => .cons (Is.mono e h) (IsL.mono e l)
theorem IsF.mono (e : Gm M H H') : ∀ {ds : List (Str × Dt)} {vs : List (Str × V)}, IsF K M H ds vs → IsF K M H' ds vs
  | _, _, .nil => .nil
  | _, _, .cons h l => .cons (Is.mono e h) (IsF.mono e l)
theorem IsK.mono (e : Gm M H H') : ∀ {ds : List (Key × Dt)} {vs : List (Key × V)}, IsK K M H ds vs → IsK K M H' ds vs
  | _, _, .nil => .nil
  | _, _, .cons h l => .cons (Is.mono e h) (IsK.mono e l)
end
/-! the zone of what may change, made smaller; made greater by what is not there -/
mutual
theorem Is.zone (z : ∀ b o, H b = some o → M' b → ¬ Still o → M b) : ∀ {d : Dt} {v : V}, Is K M H d v → Is K M' H d v
  | _, _, .non => .non
  | _, _, .bl b => .bl b
  | _, _, .int i => .int i
  | _, _, .str x => .str x
  | _, _, .ty n => .ty n
  | _, _, .tup h l => .tup h (IsL.zone z l)
  | _, _, .lst h n l => .lst h (fun m => n (z _ _ h m fun q => q)) (IsL.zone z l)
  | _, _, .ins h l => .ins h (IsF.zone z l)
  | _, _, .dct h n l => .dct h (fun m => n (z _ _ h m fun q => q)) (IsK.zone z l)
  | _, _, .raw v => .raw v
theorem IsL.zone (z : ∀ b o, H b = some o → M' b → ¬ Still o → M b) : ∀ {ds : List Dt} {vs : List V}, IsL K M H ds vs → IsL K M' H ds vs
  | _, _, .nil => .nil
  | _, _, .cons h l => .cons (Is.zone z h) (IsL.zone z l)
theorem IsF.zone (z : ∀ b o, H b = some o → M' b → ¬ Still o → M b) : ∀ {ds : List (Str × Dt)} {vs : List (Str × V)}, IsF K M H ds vs → IsF K M' H ds vs
  | _, _, .nil => .nil
  | _, _, .cons h l => .cons (Is.zone z h) (IsF.zone z l)
theorem IsK.zone (z : ∀ b o, H b = some o → M' b → ¬ Still o → M b) : ∀ {ds : List (Key × Dt)} {vs : List (Key × V)}, IsK K M H ds vs → IsK K M' H ds vs
  | _, _, .nil => .nil
  | _, _, .cons h l => .cons (Is.zone z h) (IsK.zone z l)
end
theorem Is.weak (z : ∀ b, M' b → M b) {d : Dt} {v : V} (h : Is K M H d v) : Is K M' H d v := h.zone fun b _ _ m _ => z b m
theorem IsL.weak (z : ∀ b, M' b → M b) {d : List Dt} {v : List V} (h : IsL K M H d v) : IsL K M' H d v := h.zone fun b _ _ m _ => z b m

/-! ### lists of data -/
theorem IsL.length : ∀ {ds : List Dt} {vs : List V}, IsL K M H ds vs → ds.length = vs.length
  | _, _, .nil => rfl
  | _, _, .cons _ l => congrArg Nat.succ (IsL.length l)
theorem IsL.get : ∀ {ds : List Dt} {vs : List V} {i : Nat} {d : Dt}, IsL K M H ds vs → ds[i]? = some d → ∃ v, vs[i]? = some v ∧ Is K M H d v
  | _, _, i, _, .nil, e => by simp at e
  | _, _, 0, _, .cons h _, e => by
    have := Option.some.inj e
    subst this
    exact ⟨_, rfl, h⟩
  | _, _, i + 1, _, .cons _ l, e => IsL.get (i := i) l e
theorem IsL.getV : ∀ {ds : List Dt} {vs : List V} {i : Nat} {v : V}, IsL K M H ds vs → vs[i]? = some v → ∃ d, ds[i]? = some d ∧ Is K M H d v
  | _, _, i, _, .nil, e => by simp at e
  | _, _, 0, _, .cons h _, e => by
    have := Option.some.inj e
    subst this
    exact ⟨_, rfl, h⟩
  | _, _, i + 1, _, .cons _ l, e => IsL.getV (i := i) l e
theorem IsL.append : ∀ {ds es : List Dt} {vs ws : List V}, IsL K M H ds vs → IsL K M H es ws → IsL K M H (ds ++ es) (vs ++ ws)
  | _, _, _, _, .nil, r => r
  | _, _, _, _, .cons h l, r => .cons h (IsL.append l r)
theorem IsL.take : ∀ {ds : List Dt} {vs : List V} (n : Nat), IsL K M H ds vs → IsL K M H (ds.take n) (vs.take n)
  | _, _, 0, _ => .nil
  | _, _, _ + 1, .nil => .nil
  | _, _, n + 1, .cons h l => .cons h (IsL.take n l)
theorem IsL.drop : ∀ {ds : List Dt} {vs : List V} (n : Nat), IsL K M H ds vs → IsL K M H (ds.drop n) (vs.drop n)
  | _, _, 0, r => r
  | _, _, _ + 1, .nil => .nil
  | _, _, n + 1, .cons _ l => IsL.drop n l
theorem IsL.set : ∀ {ds : List Dt} {vs : List V} (n : Nat) {d : Dt} {v : V}, IsL K M H ds vs → Is K M H d v → IsL K M H (ds.set n d) (vs.set n v)
  | _, _, _, _, _, .nil, _ => .nil
  | _, _, 0, _, _, .cons _ l, q => .cons q l
  | _, _, n + 1, _, _, .cons h l, q => .cons h (IsL.set n l q)
theorem IsL.erase : ∀ {ds : List Dt} {vs : List V} (n : Nat), IsL K M H ds vs → IsL K M H (ds.eraseIdx n) (vs.eraseIdx n)
  | _, _, _, .nil => .nil
  | _, _, 0, .cons _ l => l
  | _, _, n + 1, .cons h l => .cons h (IsL.erase n l)
theorem IsL.reverse : ∀ {ds : List Dt} {vs : List V}, IsL K M H ds vs → IsL K M H ds.reverse vs.reverse
  | _, _, .nil => .nil
  | _, _, .cons h l => by
    rw [List.reverse_cons, List.reverse_cons]
    exact IsL.append (IsL.reverse l) (.cons h .nil)
theorem IsL.one {d : Dt} {v : V} (h : Is K M H d v) : IsL K M H [d] [v] := .cons h .nil
theorem IsL.ints : ∀ {ns : List Int} {vs : List V}, IsL K M H (ns.map Dt.int) vs → vs = ns.map V.int
  | [], _, .nil => rfl
  | _ :: _, _, .cons h l => by
    cases h
    rw [IsL.ints l]
    rfl
theorem IsL.ofInts : ∀ (ns : List Int), IsL K M H (ns.map Dt.int) (ns.map V.int)
  | [] => .nil
  | n :: ns => .cons (.int n) (IsL.ofInts ns)
theorem IsL.bls : ∀ {ns : List Bool} {vs : List V}, IsL K M H (ns.map Dt.bl) vs → vs = ns.map V.bl
  | [], _, .nil => rfl
  | _ :: _, _, .cons h l => by
    cases h
    rw [IsL.bls l]
    rfl
end

/-! ### data without parts that may change -/
class Imm (d : Dt) : Prop where
  any : ∀ (K : PySem.W.Frag) (M M' : Addr → Prop) (H : Hp) (v : V), Is K M H d v → Is K M' H d v
instance : Imm .non := ⟨fun _ _ _ _ _ h => by cases h; exact .non⟩
instance (b : Bool) : Imm (.bl b) := ⟨fun _ _ _ _ _ h => by cases h; exact .bl b⟩
instance (i : Int) : Imm (.int i) := ⟨fun _ _ _ _ _ h => by cases h; exact .int i⟩
instance (x : Str) : Imm (.str x) := ⟨fun _ _ _ _ _ h => by cases h; exact .str x⟩
instance (n : String) : Imm (.ty n) := ⟨fun _ _ _ _ _ h => by cases h; exact .ty n⟩
instance (v : V) : Imm (.raw v) := ⟨fun _ _ _ _ _ h => by cases h; exact .raw v⟩
class ImmL (ds : List Dt) : Prop where
  all : ∀ d ∈ ds, Imm d
theorem immL_any : ∀ {ds : List Dt}, (∀ d ∈ ds, Imm d) → ∀ (K : PySem.W.Frag) (M M' : Addr → Prop) (H : Hp) (vs : List V), IsL K M H ds vs → IsL K M' H ds vs
  | [], _, _, _, _, _, _, .nil => .nil
  | d :: ds, i, K, M, M', H, _, .cons a b => .cons ((i d (List.mem_cons_self ..)).any K M M' H _ a) (immL_any (fun e he => i e (List.mem_cons_of_mem _ he)) K M M' H _ b)
theorem ImmL.any {ds : List Dt} [i : ImmL ds] (K : PySem.W.Frag) (M M' : Addr → Prop) (H : Hp) (vs : List V) : IsL K M H ds vs → IsL K M' H ds vs := immL_any i.all K M M' H vs
instance : ImmL [] := ⟨fun _ h => nomatch h⟩
instance (d : Dt) (ds : List Dt) [i : Imm d] [j : ImmL ds] : ImmL (d :: ds) := ⟨fun e he => by
  rcases List.mem_cons.mp he with h | h
  · exact h ▸ i
  · exact j.all e h⟩
instance (ds es : List Dt) [i : ImmL ds] [j : ImmL es] : ImmL (ds ++ es) := ⟨fun e he => by
  rcases List.mem_append.mp he with h | h
  · exact i.all e h
  · exact j.all e h⟩
instance {α : Type} (f : α → Dt) (xs : List α) [i : ∀ a, Imm (f a)] : ImmL (xs.map f) := ⟨fun e he => by
  obtain ⟨a, _, rfl⟩ := List.mem_map.mp he
  exact i a⟩
instance (n : Nat) (d : Dt) [i : Imm d] : ImmL (List.replicate n d) := ⟨fun e he => by
  rw [(List.mem_replicate.mp he).2]
  exact i⟩
instance (ds : List Dt) [i : ImmL ds] : ImmL ds.reverse := ⟨fun e he => i.all e (List.mem_reverse.mp he)⟩
instance (ds : List Dt) (n : Nat) [i : ImmL ds] : ImmL (ds.take n) := ⟨fun e he => i.all e (List.mem_of_mem_take he)⟩
instance (ds : List Dt) (n : Nat) [i : ImmL ds] : ImmL (ds.drop n) := ⟨fun e he => i.all e (List.mem_of_mem_drop he)⟩
instance (ds : List Dt) [j : ImmL ds] : Imm (.tup ds) := ⟨fun K M M' H v h => by
  cases h with
  | tup a b => exact .tup a (j.any _ _ _ _ _ b)⟩
class ImmF (ds : List (Str × Dt)) : Prop where
  any : ∀ (K : PySem.W.Frag) (M M' : Addr → Prop) (H : Hp) (vs : List (Str × V)), IsF K M H ds vs → IsF K M' H ds vs
instance : ImmF [] := ⟨fun _ _ _ _ _ h => by cases h; exact .nil⟩
instance (n : Str) (d : Dt) (ds : List (Str × Dt)) [i : Imm d] [j : ImmF ds] : ImmF ((n, d) :: ds) := ⟨fun K M M' H vs h => by
  cases h with
  | cons a b => exact .cons (i.any _ _ _ _ _ a) (j.any _ _ _ _ _ b)⟩
instance (C : Addr) (fs : List (Str × Dt)) [j : ImmF fs] : Imm (.ins C fs) := ⟨fun K M M' H v h => by
  cases h with
  | ins a b => exact .ins a (j.any _ _ _ _ _ b)⟩
theorem imm_of_mem {ds : List Dt} [i : ImmL ds] {d : Dt} (h : d ∈ ds) : Imm d := i.all d h
end Ly
end
section
set_option Elab.async false
set_option linter.all false
set_option maxRecDepth 100000
set_option maxHeartbeats 2000000
set_option autoImplicit false
namespace Ly
open PySem L2

/-! ### zones, states -/
structure Zn where
  M : Addr → Prop
  J : Hp → Prop
  dom : ∀ H b, J H → M b → ∃ o, H b = some o ∧ ¬ Still o
  loc : ∀ H H', J H → (∀ b, M b → H' b = H b) → J H'
def z0 : Zn := ⟨fun _ => False, fun _ => True, fun _ _ _ h => h.elim, fun _ _ _ _ => trivial⟩
abbrev Own := List (Addr × List Dt)
abbrev Gam := List (Option Dt)
def Mt (Z : Zn) (L : Own) (b : Addr) : Prop := Z.M b ∨ b ∈ L.map (·.1)
theorem mt_z {Z : Zn} {L : Own} {b : Addr} (h : Z.M b) : Mt Z L b := .inl h
structure At (K : PySem.W.Frag) (Z : Zn) (H0 : Hp) (L : Own) (Γ : Gam) (σ : L2.St) (H : Hp) : Prop where
  go : Gm (Mt Z L) H0 H
  j : Z.J H
  own : ∀ p ∈ L, ∃ xs, H p.1 = some (.lst xs) ∧ IsL K (Mt Z L) H p.2 xs ∧ ¬ Z.M p.1
  nd : (L.map (·.1)).Nodup
  len : σ.length = Γ.length
  env : ∀ (i : Nat) (d : Dt), Γ[i]? = some (some d) → ∃ v, σ[i]? = some (some v) ∧ Is K (Mt Z L) H d v
section
variable {K : PySem.W.Frag} {Z : Zn} {H0 H1 : Hp} {L : Own} {Γ : Gam} {σ : L2.St} {H H' : Hp}
theorem At.dom (a : At K Z H0 L Γ σ H) {b : Addr} (m : Mt Z L b) : ∃ o, H b = some o ∧ ¬ Still o := by
  rcases m with m | m
  · exact Z.dom H b a.j m
  · obtain ⟨p, hp, rfl⟩ := List.mem_map.mp m
    obtain ⟨xs, h, _⟩ := a.own p hp
    exact ⟨_, h, fun q => q⟩
theorem At.ne (a : At K Z H0 L Γ σ H) {b : Addr} (m : Mt Z L b) : H b ≠ none := by
  obtain ⟨o, h, _⟩ := a.dom m
  rw [h]
  exact fun q => nomatch q
theorem At.step (a : At K Z H0 L Γ σ H) (g : Gm Z.M H H') (j : Z.J H') : At K Z H0 L Γ σ H' := by
  have g2 : Gm (Mt Z L) H H' := g.weak fun b h => .inl h
  refine ⟨a.go.trans g2, j, fun p hp => ?_, a.nd, a.len, fun i d h => ?_⟩
  · obtain ⟨xs, h, l, n⟩ := a.own p hp
    exact ⟨xs, g _ _ h fun m => absurd m n, l.mono g2, n⟩
  · obtain ⟨v, h1, h2⟩ := a.env i d h
    exact ⟨v, h1, h2.mono g2⟩
theorem At.ex (a : At K Z H0 L Γ σ H) (e : Ex H H') : Gm Z.M H H' ∧ Z.J H' :=
  ⟨Gm.ofEx e, Z.loc H H' a.j fun b m => by
    obtain ⟨o, h, _⟩ := Z.dom H b a.j m
    rw [h, e b o h]⟩
/-- another point to look back to -/
theorem At.base (a : At K Z H0 L Γ σ H) (g : Gm (Mt Z L) H1 H0) : At K Z H1 L Γ σ H := { a with go := g.trans a.go }
theorem At.here (a : At K Z H0 L Γ σ H) : At K Z H L Γ σ H := { a with go := Gm.refl H }
theorem get_set {α : Type} {l : List α} {i j : Nat} {x y : α} (h : (l.set i x)[j]? = some y) : (i = j ∧ x = y ∧ i < l.length) ∨ (i ≠ j ∧ l[j]? = some y) := by
  by_cases e : i = j
  · subst e
    rw [List.getElem?_set_self'] at h
    cases q : l[i]? with
    | none =>
      rw [q] at h
      cases h
    | some z =>
      rw [q] at h
      exact .inl ⟨rfl, Option.some.inj h, (List.getElem?_eq_some_iff.mp q).1⟩
  · rw [List.getElem?_set_ne e] at h
    exact .inr ⟨e, h⟩
theorem At.set (a : At K Z H0 L Γ σ H) (i : Nat) {d : Dt} {v : V} (h : Is K (Mt Z L) H d v) : At K Z H0 L (Γ.set i (some d)) (σ.set i (some v)) H := by
  refine { a with len := by rw [List.length_set, List.length_set]; exact a.len, env := fun j e hj => ?_ }
  rcases get_set hj with ⟨h1, h2, h3⟩ | ⟨h1, h2⟩
  · subst h1
    have := Option.some.inj h2
    subst this
    exact ⟨v, List.getElem?_set_self (by rw [a.len]; exact h3), h⟩
  · obtain ⟨w, e1, e2⟩ := a.env j e h2
    exact ⟨w, (List.getElem?_set_ne h1).trans e1, e2⟩
/-- forgetting slots -/
def Less (Γ Γ' : Gam) : Prop := Γ.length = Γ'.length ∧ ∀ (i : Nat) (d : Dt), Γ'[i]? = some (some d) → Γ[i]? = some (some d)
theorem At.less {Γ' : Gam} (a : At K Z H0 L Γ σ H) (h : Less Γ Γ') : At K Z H0 L Γ' σ H := { a with len := a.len.trans h.1, env := fun i d e => a.env i d (h.2 i d e) }
theorem Less.nil : Less [] [] := ⟨rfl, fun _ _ h => by simp at h⟩
theorem Less.keep {x : Option Dt} {Γ Γ' : Gam} (h : Less Γ Γ') : Less (x :: Γ) (x :: Γ') := ⟨congrArg Nat.succ h.1, fun i d e => by
  cases i with
  | zero => exact e
  | succ i => exact h.2 i d e⟩
theorem Less.drop {x : Option Dt} {Γ Γ' : Gam} (h : Less Γ Γ') : Less (x :: Γ) (none :: Γ') := ⟨congrArg Nat.succ h.1, fun i d e => by
  cases i with
  | zero => cases e
  | succ i => exact h.2 i d e⟩

/-! ### how far a value is from what may change -/
class Wd (K : PySem.W.Frag) (Z : Zn) (L : Own) (W : Hp → Addr → Prop) : Prop where
  lo : ∀ {H0 Γ σ H b}, At K Z H0 L Γ σ H → Z.M b → W H b
  hi : ∀ {H0 Γ σ H b}, At K Z H0 L Γ σ H → W H b → H b ≠ none
  up : ∀ {H0 Γ σ H H' b}, At K Z H0 L Γ σ H → Gm Z.M H H' → Z.J H' → W H b → W H' b
/-- weak: own lists may be meant; strong; new -/
abbrev wW (Z : Zn) : Hp → Addr → Prop := fun _ => Z.M
abbrev wS (Z : Zn) (L : Own) : Hp → Addr → Prop := fun _ => Mt Z L
abbrev wF : Hp → Addr → Prop := fun H b => H b ≠ none
instance : Wd K Z L (wW Z) := ⟨fun _ m => m, fun a m => a.ne (mt_z m), fun _ _ _ m => m⟩
instance : Wd K Z L (wS Z L) := ⟨fun _ m => mt_z m, fun a m => a.ne m, fun _ _ _ m => m⟩
instance : Wd K Z L wF := ⟨fun a m => a.ne (mt_z m), fun _ m => m, fun {_ _ _ H H' b} a g j m => by
  cases e : H b with
  | none => exact absurd e m
  | some o =>
    by_cases z : Z.M b
    · obtain ⟨o', h, _⟩ := Z.dom H' b j z
      show H' b ≠ none
      rw [h]
      exact fun q => nomatch q
    · show H' b ≠ none
      rw [g b o e fun q => absurd q z]
      exact fun q => nomatch q⟩

/-! ### what evaluates to what -/
def EV (K : PySem.W.Frag) (Z : Zn) (H0 : Hp) (L : Own) (Γ : Gam) (W : Hp → Addr → Prop) (te : TE) (P : Dt → Prop) : Prop :=
  ∀ σ H, At K Z H0 L Γ σ H → ∀ Q : VK, (∀ d v H', P d → Gm Z.M H H' → Z.J H' → Is K (W H) H' d v → Q v H') → te σ H Q
def EVT (K : PySem.W.Frag) (Z : Zn) (H0 : Hp) (L : Own) (Γ : Gam) (tt : TT) (P : Bool → Prop) : Prop :=
  ∀ σ H, At K Z H0 L Γ σ H → ∀ Q : Bool → Hp → Prop, (∀ b H', P b → Gm Z.M H H' → Z.J H' → Q b H') → tt σ H Q
def EVA (K : PySem.W.Frag) (Z : Zn) (H0 : Hp) (L : Own) (Γ : Gam) (W : Hp → Addr → Prop) (ta : TA) (P : List Dt → Prop) : Prop :=
  ∀ σ H, At K Z H0 L Γ σ H → ∀ Q : List V → Hp → Prop, (∀ ds vs H', P ds → Gm Z.M H H' → Z.J H' → IsL K (W H) H' ds vs → Q vs H') → ta σ H Q
/-- an operation on values -/
def RR (K : PySem.W.Frag) (r : R2) (d e : Dt) (P : Dt → Prop) : Prop :=
  ∀ M H x y, Is K M H d x → Is K M H e y → ∀ Q : VK, (∀ f v H', P f → Ex H H' → Is K (fun b => H b ≠ none) H' f v → Q v H') → r x y H Q
def RU (K : PySem.W.Frag) (r : V → Hp → VK → Prop) (d : Dt) (P : Dt → Prop) : Prop :=
  ∀ M H x, Is K M H d x → ∀ Q : VK, (∀ f v H', P f → Ex H H' → Is K (fun b => H b ≠ none) H' f v → Q v H') → r x H Q
def RC (K : PySem.W.Frag) (r : List V → Hp → VK → Prop) (ds : List Dt) (P : Dt → Prop) : Prop :=
  ∀ M H vs, IsL K M H ds vs → ∀ Q : VK, (∀ f v H', P f → Ex H H' → Is K (fun b => H b ≠ none) H' f v → Q v H') → r vs H Q
variable {W W' W1 W2 : Hp → Addr → Prop} {te ta tb : TE} {tt tu : TT} {P P1 P2 : Dt → Prop} {d e f : Dt}

theorem EV.to (h : EV K Z H0 L Γ W te P) (hp : ∀ d, P d → P1 d) : EV K Z H0 L Γ W te P1 := fun σ H a Q k => h σ H a Q fun d v H' p => k d v H' (hp d p)
theorem EV.eq (h : EV K Z H0 L Γ W te (Eq d)) (hd : d = e) : EV K Z H0 L Γ W te (Eq e) := hd ▸ h
theorem EV.sw (h : EV K Z H0 L Γ (wS Z L) te P) : EV K Z H0 L Γ (wW Z) te P := fun σ H a Q k => h σ H a Q fun d v H' p g j i => k d v H' p g j (i.weak fun b m => mt_z m)
theorem EV.fs (h : EV K Z H0 L Γ wF te P) : EV K Z H0 L Γ (wS Z L) te P := fun σ H a Q k => h σ H a Q fun d v H' p g j i => k d v H' p g j (i.weak fun b m => a.ne m)
theorem EV.fw (h : EV K Z H0 L Γ wF te P) : EV K Z H0 L Γ (wW Z) te P := h.fs.sw
theorem EV.imm (h : EV K Z H0 L Γ W' te (Eq d)) [i : Imm d] : EV K Z H0 L Γ W te (Eq d) := fun σ H a Q k => h σ H a Q fun d v H' p g j i' => by
  subst p
  exact k _ v H' rfl g j (i.any _ _ _ _ _ i')
theorem EV.immP (h : EV K Z H0 L Γ W' te P) (i : ∀ d, P d → Imm d) : EV K Z H0 L Γ W te P := fun σ H a Q k => h σ H a Q fun d v H' p g j i' => k _ v H' p g j ((i d p).any _ _ _ _ _ i')

theorem ev_var {i : Nat} (h : Γ[i]? = some (some d)) : EV K Z H0 L Γ (wS Z L) (tVar i) (Eq d) := fun σ H a Q k => by
  obtain ⟨v, e1, e2⟩ := a.env i d h
  exact ⟨v, e1, k d v H rfl (Gm.refl H) a.j e2⟩
theorem ev_varW {i : Nat} (h : Γ[i]? = some (some d)) : EV K Z H0 L Γ (wW Z) (tVar i) (Eq d) := (ev_var h).sw
theorem ev_varI {i : Nat} (h : Γ[i]? = some (some d)) [Imm d] : EV K Z H0 L Γ W (tVar i) (Eq d) := (ev_var h).imm
/-- a list of one's own, looked at -/
theorem ev_own {i : Nat} {l : Addr} {ds : List Dt} (h : Γ[i]? = some (some (.raw (.ref l)))) (hl : (l, ds) ∈ L) : EV K Z H0 L Γ (wW Z) (tVar i) (Eq (.lst ds)) := fun σ H a Q k => by
  obtain ⟨v, e1, e2⟩ := a.env i _ h
  cases e2
  obtain ⟨xs, h1, h2, h3⟩ := a.own _ hl
  exact ⟨_, e1, k _ _ H rfl (Gm.refl H) a.j (.lst h1 h3 (h2.weak fun b m => mt_z m))⟩
theorem ev_c {v : V} (h : ∀ M H, Is K M H d v) : EV K Z H0 L Γ W (tC v) (Eq d) := fun σ H a Q k => k d v H rfl (Gm.refl H) a.j (h _ _)
theorem ev_int {i : Int} : EV K Z H0 L Γ W (tC (.int i)) (Eq (.int i)) := ev_c fun _ _ => .int i
theorem ev_str {i : Str} : EV K Z H0 L Γ W (tC (.str i)) (Eq (.str i)) := ev_c fun _ _ => .str i
theorem ev_bl {i : Bool} : EV K Z H0 L Γ W (tC (.bl i)) (Eq (.bl i)) := ev_c fun _ _ => .bl i
theorem ev_non : EV K Z H0 L Γ W (tC .non) (Eq .non) := ev_c fun _ _ => .non
theorem ev_ty {n : String} : EV K Z H0 L Γ W (tC (.ty n)) (Eq (.ty n)) := ev_c fun _ _ => .ty n

/-- behind an expression -/
theorem At.then (a : At K Z H0 L Γ σ H) (g : Gm Z.M H H') (j : Z.J H') : At K Z H0 L Γ σ H' := a.step g j
theorem fin_ex [w : Wd K Z L W] {x : V} (a : At K Z H0 L Γ σ H) {H2 : Hp} {Q : VK} (g : Gm Z.M H H') (j : Z.J H') (e2 : Ex H' H2) (i : Is K (fun b => H' b ≠ none) H2 d x) (p : P d)
    (k : ∀ d v H', P d → Gm Z.M H H' → Z.J H' → Is K (W H) H' d v → Q v H') : Q x H2 := by
  have a1 := a.step g j
  obtain ⟨g2, j2⟩ := a1.ex e2
  exact k d x H2 p (g.trans g2) j2 (i.weak fun b m => w.hi a1 (w.up a g j m))
theorem ev_opP {r : R2} [w : Wd K Z L W] (h1 : EV K Z H0 L Γ (wW Z) ta P1) (h2 : ∀ d, P1 d → EV K Z H0 L Γ (wW Z) tb P2) (hr : ∀ d e, P1 d → P2 e → RR K r d e P) : EV K Z H0 L Γ W (tOp r ta tb) P := fun σ H a Q k =>
  h1 σ H a _ fun d x H1 p1 g1 j1 i1 => h2 d p1 σ H1 (a.step g1 j1) _ fun e y H2 p2 g2 j2 i2 =>
    hr d e p1 p2 Z.M H2 x y (i1.mono g2) i2 Q fun f v H3 p e3 i3 => fin_ex a (g1.trans g2) j2 e3 i3 p k
theorem ev_op {r : R2} [w : Wd K Z L W] (h1 : EV K Z H0 L Γ (wW Z) ta (Eq d)) (h2 : EV K Z H0 L Γ (wW Z) tb (Eq e)) (hr : RR K r d e P) : EV K Z H0 L Γ W (tOp r ta tb) P :=
  ev_opP h1 (fun _ _ => h2) fun _ _ p1 p2 => p1 ▸ p2 ▸ hr
theorem ev_un {r : V → Hp → VK → Prop} [w : Wd K Z L W] (h1 : EV K Z H0 L Γ (wW Z) ta (Eq d)) (hr : RU K r d P) : EV K Z H0 L Γ W (tUn r ta) P := fun σ H a Q k =>
  h1 σ H a _ fun d' x H1 p1 g1 j1 i1 => by
    subst p1
    exact hr Z.M H1 x i1 Q fun f v H3 p e3 i3 => fin_ex a g1 j1 e3 i3 p k

/-! ### tests -/
theorem EVT.to {P P' : Bool → Prop} (h : EVT K Z H0 L Γ tt P) (hp : ∀ d, P d → P' d) : EVT K Z H0 L Γ tt P' := fun σ H a Q k => h σ H a Q fun d H' p => k d H' (hp d p)
theorem EVT.eq {b c : Bool} (h : EVT K Z H0 L Γ tt (Eq b)) (hd : b = c) : EVT K Z H0 L Γ tt (Eq c) := hd ▸ h
theorem et_test {b : Bool} (h : EV K Z H0 L Γ W te (Eq (.bl b))) : EVT K Z H0 L Γ (tTest te) (Eq b) := fun σ H a Q k =>
  h σ H a _ fun d v H' p g j i => by
    subst p
    cases i
    exact ⟨b, rfl, k b H' rfl g j⟩
theorem et_testP {P : Bool → Prop} (h : EV K Z H0 L Γ W te (fun d => ∃ b, d = .bl b ∧ P b)) : EVT K Z H0 L Γ (tTest te) P := fun σ H a Q k =>
  h σ H a _ fun d v H' p g j i => by
    obtain ⟨b, rfl, p⟩ := p
    cases i
    exact ⟨b, rfl, k b H' p g j⟩
theorem et_B {b : Bool} (h : EV K Z H0 L Γ W te (Eq (.bl b))) : EVT K Z H0 L Γ (tB te) (Eq b) := fun σ H a Q k =>
  h σ H a _ fun d v H' p g j i => by
    subst p
    cases i
    exact ⟨b, rfl, k b H' rfl g j⟩
theorem et_yes : EVT K Z H0 L Γ tYes (Eq true) := fun σ H a Q k => k true H rfl (Gm.refl H) a.j
theorem et_and {b c : Bool} (h1 : EVT K Z H0 L Γ tt (Eq b)) (h2 : b = true → EVT K Z H0 L Γ tu (Eq c)) : EVT K Z H0 L Γ (tAnd tt tu) (Eq (b && c)) := fun σ H a Q k =>
  h1 σ H a _ fun b' H1 p g j => by
    subst p
    cases b with
    | true =>
      show tu σ H1 Q
      exact h2 rfl σ H1 (a.step g j) Q fun c' H2 p2 g2 j2 => k c' H2 p2 (g.trans g2) j2
    | false =>
      show Q false H1
      exact k false H1 rfl g j
theorem et_or {b c : Bool} (h1 : EVT K Z H0 L Γ tt (Eq b)) (h2 : b = false → EVT K Z H0 L Γ tu (Eq c)) : EVT K Z H0 L Γ (tOr tt tu) (Eq (b || c)) := fun σ H a Q k =>
  h1 σ H a _ fun b' H1 p g j => by
    subst p
    cases b with
    | true =>
      show Q true H1
      exact k true H1 rfl g j
    | false =>
      show tu σ H1 Q
      exact h2 rfl σ H1 (a.step g j) Q fun c' H2 p2 g2 j2 => k c' H2 p2 (g.trans g2) j2
theorem et_not {b : Bool} (h : EVT K Z H0 L Γ tt (Eq b)) : EVT K Z H0 L Γ (tNot tt) (Eq (!b)) := fun σ H a Q k => h σ H a _ fun b' H1 p g j => by
  subst p
  exact k _ H1 rfl g j
theorem ev_andV [w : Wd K Z L W] {b c : Bool} (h1 : EV K Z H0 L Γ W1 ta (Eq (.bl b))) (h2 : b = true → EV K Z H0 L Γ W2 tb (Eq (.bl c))) : EV K Z H0 L Γ W (tAndV ta tb) (Eq (.bl (b && c))) := fun σ H a Q k =>
  h1 σ H a _ fun d v H1 p g j i => by
    subst p
    cases i
    refine ⟨b, rfl, ?_⟩
    cases b with
    | true =>
      show tb σ H1 Q
      exact h2 rfl σ H1 (a.step g j) Q fun d2 v2 H2 p2 g2 j2 i2 => by
        subst p2
        cases i2
        exact k _ _ H2 rfl (g.trans g2) j2 (.bl _)
    | false =>
      show Q (.bl false) H1
      exact k _ _ H1 rfl g j (.bl _)
theorem ev_orV [w : Wd K Z L W] {b c : Bool} (h1 : EV K Z H0 L Γ W1 ta (Eq (.bl b))) (h2 : b = false → EV K Z H0 L Γ W2 tb (Eq (.bl c))) : EV K Z H0 L Γ W (tOrV ta tb) (Eq (.bl (b || c))) := fun σ H a Q k =>
  h1 σ H a _ fun d v H1 p g j i => by
    subst p
    cases i
    refine ⟨b, rfl, ?_⟩
    cases b with
    | false =>
      show tb σ H1 Q
      exact h2 rfl σ H1 (a.step g j) Q fun d2 v2 H2 p2 g2 j2 i2 => by
        subst p2
        cases i2
        exact k _ _ H2 rfl (g.trans g2) j2 (.bl _)
    | true =>
      show Q (.bl true) H1
      exact k _ _ H1 rfl g j (.bl _)
theorem ev_notV {b : Bool} (h1 : EV K Z H0 L Γ W1 ta (Eq (.bl b))) : EV K Z H0 L Γ W (tNotV ta) (Eq (.bl (!b))) := fun σ H a Q k =>
  h1 σ H a _ fun d v H1 p g j i => by
    subst p
    cases i
    exact ⟨b, rfl, k _ _ H1 rfl g j (.bl _)⟩
theorem ev_ifP [w : Wd K Z L W] {B : Bool → Prop} (h : EVT K Z H0 L Γ tt B) (h1 : B true → EV K Z H0 L Γ W ta P) (h2 : B false → EV K Z H0 L Γ W tb P) : EV K Z H0 L Γ W (tIf tt ta tb) P := fun σ H a Q k =>
  h σ H a _ fun b H1 p g j => by
    have go : ∀ {tx : TE}, EV K Z H0 L Γ W tx P → tx σ H1 Q := fun hx => hx σ H1 (a.step g j) Q fun d v H2 p2 g2 j2 i2 => k d v H2 p2 (g.trans g2) j2 (i2.weak fun b m => w.up a g j m)
    cases b with
    | true =>
      show ta σ H1 Q
      exact go (h1 p)
    | false =>
      show tb σ H1 Q
      exact go (h2 p)
theorem ev_if [w : Wd K Z L W] {b : Bool} (h : EVT K Z H0 L Γ tt (Eq b)) (h1 : b = true → EV K Z H0 L Γ W ta P) (h2 : b = false → EV K Z H0 L Γ W tb P) : EV K Z H0 L Γ W (tIf tt ta tb) P := ev_ifP h h1 h2

/-! ### arguments -/
variable {tr : TA} {ds es : List Dt} {PL PL1 : List Dt → Prop}
theorem ea_nil : EVA K Z H0 L Γ W tNil (Eq []) := fun σ H a Q k => k [] [] H rfl (Gm.refl H) a.j .nil
theorem ea_consP [w : Wd K Z L W] (h : EV K Z H0 L Γ W te P) (hr : ∀ d, P d → EVA K Z H0 L Γ W tr PL) : EVA K Z H0 L Γ W (tCons te tr) (fun l => ∃ d ds, l = d :: ds ∧ P d ∧ PL ds) := fun σ H a Q k =>
  h σ H a _ fun d x H1 p1 g1 j1 i1 => hr d p1 σ H1 (a.step g1 j1) _ fun ds vs H2 p2 g2 j2 i2 => k (d :: ds) (x :: vs) H2 ⟨d, ds, rfl, p1, p2⟩ (g1.trans g2) j2
    (.cons (i1.mono (g2.weak fun b m => w.lo a m)) (i2.weak fun b m => w.up a g1 j1 m))
theorem ea_cons [w : Wd K Z L W] (h : EV K Z H0 L Γ W te (Eq d)) (hr : EVA K Z H0 L Γ W tr (Eq ds)) : EVA K Z H0 L Γ W (tCons te tr) (Eq (d :: ds)) := fun σ H a Q k =>
  ea_consP h (fun _ _ => hr) σ H a Q fun l vs H' p => k l vs H' (by obtain ⟨d', ds', rfl, rfl, rfl⟩ := p; rfl)
/-- a list or a tuple -/
inductive IsSq : Dt → List Dt → Prop
  | lst (ds : List Dt) : IsSq (.lst ds) ds
  | tup (ds : List Dt) : IsSq (.tup ds) ds
theorem IsSq.at {M : Addr → Prop} {v : V} (s : IsSq d ds) (h : Is K M H d v) : ∃ a xs, v = .ref a ∧ IsL K M H ds xs ∧ (SqL K H a xs ∨ SqT K H a xs) := by
  cases s with
  | lst =>
    cases h with
    | lst h n l => exact ⟨_, _, rfl, l, .inl (SqL.of h)⟩
  | tup =>
    cases h with
    | tup h l => exact ⟨_, _, rfl, l, .inr h⟩
theorem ea_star [w : Wd K Z L W] (s : IsSq d ds) [i : ImmL ds] (h : EV K Z H0 L Γ (wW Z) te (Eq d)) (hr : EVA K Z H0 L Γ W tr (Eq es)) : EVA K Z H0 L Γ W (StX.tStar K te tr) (Eq (ds ++ es)) := fun σ H a Q k =>
  h σ H a _ fun d' x H1 p1 g1 j1 i1 => by
    subst p1
    obtain ⟨b, xs, rfl, l, q⟩ := s.at i1
    exact ⟨b, xs, rfl, q.symm, hr σ H1 (a.step g1 j1) _ fun es' vs H2 p2 g2 j2 i2 => by
      subst p2
      exact k _ _ H2 rfl (g1.trans g2) j2 (((i.any _ _ _ _ _ l).mono (g2.weak fun b m => w.lo a m)).append (i2.weak fun b m => w.up a g1 j1 m))⟩
theorem ev_tupP [w : Wd K Z L W] {t : TA} (h : EVA K Z H0 L Γ W t PL) (hl : ∀ ds, PL ds → ds.length ≤ 100000) : EV K Z H0 L Γ W (tTup t) (fun d => ∃ ds, d = .tup ds ∧ PL ds) := fun σ H a Q k =>
  h σ H a _ fun ds vs H1 p g j i => ⟨by rw [← i.length]; exact Nat.le_trans (hl ds p) (by decide), fun q hq => by
    obtain ⟨g2, j2⟩ := (a.step g j).ex (Ex.new (p := q) (o := .tup vs) hq)
    exact k _ _ _ ⟨ds, rfl, p⟩ (g.trans g2) j2 (.tup (SqT.of upd_same) (i.mono (g2.weak fun b m => w.lo a m)))⟩
theorem ev_tup [w : Wd K Z L W] {t : TA} (h : EVA K Z H0 L Γ W t (Eq ds)) (hl : ds.length ≤ 100000 := by first | decide | exact Nat.le_of_ble_eq_true rfl) : EV K Z H0 L Γ W (tTup t) (Eq (.tup ds)) :=
  (ev_tupP h fun _ p => p ▸ hl).to fun d p => by obtain ⟨ds, rfl, rfl⟩ := p; rfl
theorem ev_lst [w : Wd K Z L W] {t : TA} (h : EVA K Z H0 L Γ W t (Eq ds)) (hl : ds.length ≤ 100000 := by first | decide | exact Nat.le_of_ble_eq_true rfl) : EV K Z H0 L Γ W (tLst t) (Eq (.lst ds)) := fun σ H a Q k =>
  h σ H a _ fun ds vs H1 p g j i => ⟨by subst p; rw [← i.length]; exact Nat.le_trans hl (by decide), fun q hq => by
    subst p
    have a1 := a.step g j
    obtain ⟨g2, j2⟩ := a1.ex (Ex.new (p := q) (o := .lst vs) hq)
    exact k _ _ _ rfl (g.trans g2) j2 (.lst upd_same (fun m => absurd hq (w.hi a1 (w.up a g j m))) (i.mono (g2.weak fun b m => w.lo a m)))⟩

/-! ### promises -/
/-- the arguments' data, what is asked of them, what comes back (its parts that may change are new) -/
def spP (K : PySem.W.Frag) {α : Type} (args : α → List Dt) (pre : α → Prop) (post : α → Dt → Prop) : Sp := fun vs H Q _ =>
  ∃ a : α, pre a ∧ IsL K (fun _ => False) H (args a) vs ∧ ∀ d v H', post a d → Ex H H' → Is K (fun b => H b ≠ none) H' d v → Q v H'
theorem spP_len {α : Type} {args : α → List Dt} {pre : α → Prop} {post : α → Dt → Prop} {n : Nat} {vs : List V} {H : Hp} {Q : VK} {E : XK} (h : spP K args pre post vs H Q E) (hn : ∀ a, (args a).length = n) : vs.length = n := by
  obtain ⟨a, _, i, _⟩ := h
  rw [← i.length, hn]
theorem ev_call [w : Wd K Z L W] {α : Type} {args : α → List Dt} {pre : α → Prop} {post : α → Dt → Prop} {E : XK} {t : TA} (x : α) (h : EVA K Z H0 L Γ (wW Z) t (Eq (args x))) (hp : pre x) : EV K Z H0 L Γ W (tCall (spP K args pre post) [] E t) (post x) := fun σ H a Q k =>
  h σ H a _ fun ds vs H1 p g j i => by
    subst p
    show spP K args pre post (vs ++ []) H1 Q E
    rw [List.append_nil]
    exact ⟨x, hp, i.weak fun _ q => q.elim, fun d v H2 p e i => fin_ex a g j e i p k⟩
theorem ev_callP [w : Wd K Z L W] {α : Type} {args : α → List Dt} {pre : α → Prop} {post : α → Dt → Prop} {E : XK} {t : TA} (h : EVA K Z H0 L Γ (wW Z) t PL) (hp : ∀ ds, PL ds → ∃ x, ds = args x ∧ pre x ∧ ∀ d, post x d → P d) : EV K Z H0 L Γ W (tCall (spP K args pre post) [] E t) P := fun σ H a Q k =>
  h σ H a _ fun ds vs H1 p g j i => by
    obtain ⟨x, rfl, h1, h2⟩ := hp ds p
    show spP K args pre post (vs ++ []) H1 Q E
    rw [List.append_nil]
    exact ⟨x, h1, i.weak fun _ q => q.elim, fun d v H2 p e i => fin_ex a g j e i (h2 d p) k⟩
theorem ev_cb [w : Wd K Z L W] {r : List V → Hp → VK → Prop} {t : TA} (h : EVA K Z H0 L Γ (wW Z) t (Eq ds)) (hr : RC K r ds P) : EV K Z H0 L Γ W (tCB r t) P := fun σ H a Q k =>
  h σ H a _ fun ds vs H1 p g j i => by
    subst p
    exact hr Z.M H1 vs i Q fun f v H2 p e i => fin_ex a g j e i p k
theorem ev_cbP [w : Wd K Z L W] {r : List V → Hp → VK → Prop} {t : TA} (h : EVA K Z H0 L Γ (wW Z) t PL) (hr : ∀ ds, PL ds → RC K r ds P) : EV K Z H0 L Γ W (tCB r t) P := fun σ H a Q k =>
  h σ H a _ fun ds vs H1 p g j i => hr ds p Z.M H1 vs i Q fun f v H2 p e i => fin_ex a g j e i p k
end
end Ly
end
section
set_option Elab.async false
set_option linter.all false
set_option maxRecDepth 100000
set_option maxHeartbeats 2000000
set_option autoImplicit false
namespace Ly
open PySem L2
section
variable {K : PySem.W.Frag} {Z : Zn} {H0 H1 : Hp} {L L' : Own} {Γ Γ' : Gam} {σ : L2.St} {H H' : Hp}
variable {W W' W1 W2 : Hp → Addr → Prop} {te ta tb : TE} {tt tu : TT} {P P1 P2 : Dt → Prop} {d e f : Dt} {D : Ends} {tz ts ts' : TS}

/-! ### statements, something behind -/
theorem q_next (h : D.nx σ H) : tNext D σ H := h
theorem q_asg {i : Nat} (a : At K Z H0 L Γ σ H) (h : EV K Z H0 L Γ (wS Z L) te P) (k : ∀ d, P d → ∀ σ' H', At K Z H0 L (Γ.set i (some d)) σ' H' → tz D σ' H') : tSeq (tAsg te (gName i)) tz D σ H :=
  h σ H a _ fun d v H' p g j x => k d p _ H' ((a.step g j).set i x)
theorem q_drop (a : At K Z H0 L Γ σ H) (h : EV K Z H0 L Γ W te P) (k : ∀ d, P d → ∀ H', At K Z H0 L Γ σ H' → tz D σ H') : tSeq (tDrop te) tz D σ H :=
  h σ H a _ fun d v H' p g j x => k d p H' (a.step g j)
theorem q_if {B : Bool → Prop} (a : At K Z H0 L Γ σ H) (h : EVT K Z H0 L Γ tt B) (h1 : B true → ∀ H', At K Z H0 L Γ σ H' → ts { D with nx := tz D } σ H') (h2 : B false → ∀ H', At K Z H0 L Γ σ H' → ts' { D with nx := tz D } σ H') : tSeq (tIfS tt ts ts') tz D σ H :=
  h σ H a _ fun b H' p g j => by
    cases b with
    | true => exact iteT (h1 p H' (a.step g j))
    | false => exact iteF (h2 p H' (a.step g j))
theorem q_par {i j : Nat} {ta : TA} {PL : List Dt → Prop} (a : At K Z H0 L Γ σ H) (h : EVA K Z H0 L Γ (wS Z L) ta PL) (k : ∀ ds, PL ds → ∃ d e, ds = [d, e] ∧ ∀ σ' H', At K Z H0 L ((Γ.set i (some d)).set j (some e)) σ' H' → tz D σ' H') : tSeq (tPar i j ta) tz D σ H :=
  h σ H a _ fun ds vs H' p g jj x => by
    obtain ⟨d, e, rfl, k⟩ := k ds p
    cases x with
    | cons x1 x =>
      cases x with
      | cons x2 x =>
        cases x
        exact ⟨_, _, rfl, k _ H' (((a.step g jj).set i x1).set j x2)⟩
/-- a list of one's own begins -/
theorem IsL.own {M : Addr → Prop} {l : Addr} {ds : List Dt} {vs : List V} (h : IsL K M H ds vs) (hl : H l = none) : IsL K (fun b => M b ∨ b = l) H ds vs :=
  h.zone fun b o e m _ => m.elim id fun q => by
    subst q
    rw [hl] at e
    cases e
theorem Is.own {M : Addr → Prop} {l : Addr} {d : Dt} {v : V} (h : Is K M H d v) (hl : H l = none) : Is K (fun b => M b ∨ b = l) H d v :=
  h.zone fun b o e m _ => m.elim id fun q => by
    subst q
    rw [hl] at e
    cases e
theorem mt_cons {l : Addr} {ds : List Dt} {b : Addr} : Mt Z ((l, ds) :: L) b ↔ Mt Z L b ∨ b = l := by
  constructor
  · rintro (h | h)
    · exact .inl (.inl h)
    · rcases List.mem_cons.mp h with h | h
      · exact .inr h
      · exact .inl (.inr h)
  · rintro ((h | h) | h)
    · exact .inl h
    · exact .inr (List.mem_cons_of_mem _ h)
    · exact .inr (by rw [h]; exact List.mem_cons_self ..)
theorem At.own_new (a : At K Z H0 L Γ σ H) {l : Addr} {xs : List V} {ds : List Dt} (g : Gm Z.M H H') (j : Z.J H') (hl : H l = none) (h : H' l = some (.lst xs)) (i : IsL K (fun b => H b ≠ none) H' ds xs) (hi : ImmL ds) : At K Z H0 ((l, ds) :: L) Γ σ H' := by
  have a1 := a.step g j
  have g2 : Gm (Mt Z ((l, ds) :: L)) H H' := g.weak fun b m => .inl m
  have nl : ¬ Mt Z L l := fun m => a.ne m hl
  refine ⟨a1.go.weak fun b m => mt_cons.mpr (.inl m), j, fun p hp => ?_, ?_, a.len, fun n d hn => ?_⟩
  · rcases List.mem_cons.mp hp with e | hp
    · subst e
      exact ⟨xs, h, hi.any _ _ _ _ _ i, fun m => nl (.inl m)⟩
    · obtain ⟨ys, e1, e2, e3⟩ := a.own p hp
      exact ⟨ys, g _ _ e1 fun m => absurd m e3, ((e2.own hl).weak fun b m => mt_cons.mp m).mono g2, e3⟩
  · rw [List.map_cons, List.nodup_cons]
    exact ⟨fun m => nl (.inr m), a.nd⟩
  · obtain ⟨v, e1, e2⟩ := a.env n d hn
    exact ⟨v, e1, ((e2.own hl).weak fun b m => mt_cons.mp m).mono g2⟩
theorem At.base_none (a : At K Z H0 L Γ σ H) {l : Addr} (h : H l = none) : H0 l = none := a.go.back (fun b m => a.ne m) h
theorem q_own {i : Nat} (a : At K Z H0 L Γ σ H) {ds : List Dt} (h : EV K Z H0 L Γ wF te (Eq (.lst ds))) (hi : ImmL ds) (k : ∀ l σ' H', H0 l = none → At K Z H0 ((l, ds) :: L) (Γ.set i (some (.raw (.ref l)))) σ' H' → tz D σ' H') : tSeq (tAsg te (gName i)) tz D σ H :=
  h σ H a _ fun d v H' p g j x => by
    subst p
    cases x with
    | lst e n l =>
      rename_i b xs
      have hl : H b = none := Classical.byContradiction n
      exact k b _ H' (a.base_none hl) ((a.own_new g j hl e l hi).set i (.raw _))
/-- .. ends: it is data from now on -/
theorem At.freeze {l : Addr} {ds : List Dt} (a : At K Z H0 ((l, ds) :: L) Γ σ H) (hl : H0 l = none) {i : Nat} (hi : Γ[i]? = some (some (.raw (.ref l)))) : At K Z H0 L (Γ.set i (some (.lst ds))) σ H := by
  have w : ∀ b, Mt Z L b → Mt Z ((l, ds) :: L) b := fun b m => mt_cons.mpr (.inl m)
  obtain ⟨xs, h1, h2, h3⟩ := a.own (l, ds) (List.mem_cons_self ..)
  have nd := a.nd
  rw [List.map_cons, List.nodup_cons] at nd
  have nl : ¬ Mt Z L l := fun m => m.elim h3 nd.1
  refine ⟨fun b o e m => ?_, a.j, fun p hp => ?_, nd.2, by rw [List.length_set]; exact a.len, fun n d hn => ?_⟩
  · refine a.go b o e fun m2 => ?_
    rcases mt_cons.mp m2 with m2 | m2
    · exact m m2
    · rw [m2, hl] at e
      cases e
  · obtain ⟨ys, e1, e2, e3⟩ := a.own p (List.mem_cons_of_mem _ hp)
    exact ⟨ys, e1, e2.weak w, e3⟩
  · rcases get_set hn with ⟨q1, q2, q3⟩ | ⟨q1, q2⟩
    · subst q1
      have := Option.some.inj q2
      subst this
      obtain ⟨v, e1, e2⟩ := a.env i _ hi
      cases e2
      exact ⟨_, e1, .lst h1 nl (h2.weak w)⟩
    · obtain ⟨v, e1, e2⟩ := a.env n d q2
      exact ⟨v, e1, e2.weak w⟩
/-- an own list is written -/
theorem At.own_put (a : At K Z H0 L Γ σ H) {n : Nat} {l : Addr} {ds es : List Dt} {ys : List V} (hn : L[n]? = some (l, ds)) (i : IsL K (Mt Z L) H es ys) (hi : ImmL es) : At K Z H0 (L.set n (l, es)) Γ σ (upd H l (.lst ys)) := by
  have hm : (l, ds) ∈ L := List.mem_of_getElem? hn
  obtain ⟨xs, h1, h2, h3⟩ := a.own _ hm
  have em : (L.set n (l, es)).map (·.1) = L.map (·.1) := by
    rw [List.map_set]
    refine List.ext_getElem? fun j => ?_
    by_cases q : n = j
    · subst q
      rw [List.getElem?_set_self', List.getElem?_map, hn]
      rfl
    · rw [List.getElem?_set_ne q]
  have mt : ∀ b, Mt Z (L.set n (l, es)) b ↔ Mt Z L b := fun b => by unfold Mt; rw [em]
  have ml : Mt Z L l := .inr (List.mem_map.mpr ⟨_, hm, rfl⟩)
  have g : Gm (Mt Z L) H (upd H l (.lst ys)) := fun b o e m => by
    by_cases q : b = l
    · subst q
      rw [h1] at e
      cases e
      exact absurd (m ml) fun z => z
    · rw [upd_ne q]
      exact e
  refine ⟨(a.go.trans g).weak fun b m => (mt b).mpr m, Z.loc H _ a.j fun b m => upd_ne fun q => h3 (q ▸ m), fun p hp => ?_, by rw [em]; exact a.nd, a.len, fun j d hj => ?_⟩
  · obtain ⟨m1, hm1⟩ := List.mem_iff_getElem?.mp hp
    rcases get_set hm1 with ⟨q1, q2, _⟩ | ⟨q1, q2⟩
    · subst q2
      exact ⟨ys, upd_same, ((hi.any _ _ _ _ _ i : IsL K (Mt Z L) H es ys).mono g).weak fun b m => (mt b).mp m, h3⟩
    · obtain ⟨zs, e1, e2, e3⟩ := a.own p (List.mem_of_getElem? q2)
      have ne : p.1 ≠ l := fun q => q1 (by
        have e6 : (L.map (·.1))[n]? = (L.map (·.1))[m1]? := by
          rw [List.getElem?_map, List.getElem?_map, hn, q2]
          show some l = some p.1
          rw [q]
        obtain ⟨hlt, _⟩ := List.getElem?_eq_some_iff.mp hn
        exact (List.getElem?_inj (by rw [List.length_map]; exact hlt) a.nd).mp e6)
      exact ⟨zs, by rw [upd_ne ne]; exact e1, (e2.mono g).weak fun b m => (mt b).mp m, e3⟩
  · obtain ⟨v, e1, e2⟩ := a.env j d hj
    exact ⟨v, e1, (e2.mono g).weak fun b m => (mt b).mp m⟩
end
end Ly
end
section
set_option Elab.async false
set_option linter.all false
set_option maxRecDepth 100000
set_option maxHeartbeats 2000000
set_option autoImplicit false
namespace Ly
open PySem L2
section
variable {K : PySem.W.Frag} {Z : Zn} {H0 H1 : Hp} {L L' : Own} {Γ Γ' : Gam} {σ : L2.St} {H H' : Hp}
variable {W W' W1 W2 : Hp → Addr → Prop} {te ta tb : TE} {tt tu : TT} {P P1 P2 : Dt → Prop} {d e f : Dt} {D : Ends} {tz ts ts' : TS}

/-! ### targets -/
def sets : L2.St → List Nat → List V → L2.St
  | σ, i :: is, v :: vs => sets (σ.set i (some v)) is vs
  | σ, _, _ => σ
def setsG : Gam → List Nat → List Dt → Gam
  | Γ, i :: is, d :: ds => setsG (Γ.set i (some d)) is ds
  | Γ, _, _ => Γ
theorem At.sets : ∀ {is : List Nat} {ds : List Dt} {vs : List V} {σ : L2.St} {Γ : Gam}, At K Z H0 L Γ σ H → IsL K (Mt Z L) H ds vs → is.length = ds.length → At K Z H0 L (setsG Γ is ds) (Ly.sets σ is vs) H
  | [], [], _, _, _, a, .nil, _ => a
  | [], _ :: _, _, _, _, _, _, h => by cases h
  | _ :: _, [], _, _, _, _, _, h => by cases h
  | i :: is, _ :: _, _, _, _, a, .cons x l, h => At.sets (is := is) (a.set i x) l (Nat.succ.inj h)
theorem wipe_at (τ : L2.St) : ∀ (vs : List Nat) (j : Nat), (wipe τ vs)[j]? = if j ∈ vs then (if j < τ.length then some none else none) else τ[j]?
  | [], j => by rw [if_neg (fun h => nomatch h)]; rfl
  | v :: vs, j => by
    show ((wipe τ vs).set v none)[j]? = _
    by_cases h2 : v = j
    · subst h2
      rw [if_pos (List.mem_cons_self ..)]
      by_cases h3 : v < τ.length
      · rw [if_pos h3, List.getElem?_set_self (by rw [wipe_length]; exact h3)]
      · rw [if_neg h3, List.getElem?_eq_none (by rw [List.length_set, wipe_length]; exact Nat.le_of_not_lt h3)]
    · rw [List.getElem?_set_ne h2, wipe_at τ vs j]
      by_cases h1 : j ∈ vs
      · rw [if_pos h1, if_pos (List.mem_cons_of_mem _ h1)]
      · rw [if_neg h1, if_neg (fun q => (List.mem_cons.mp q).elim (fun e => h2 e.symm) h1)]
theorem wipe_set {vs : List Nat} {i : Nat} {x : Option V} {σ : L2.St} (hi : i ∈ vs) : wipe (σ.set i x) vs = wipe σ vs := by
  refine List.ext_getElem? fun j => ?_
  rw [wipe_at, wipe_at, List.length_set]
  by_cases h1 : j ∈ vs
  · rw [if_pos h1, if_pos h1]
  · rw [if_neg h1, if_neg h1, List.getElem?_set_ne (fun q => h1 (by rw [← q]; exact hi))]
theorem wipe_sets {vs : List Nat} : ∀ {is : List Nat} {xs : List V} {σ : L2.St}, (∀ i ∈ is, i ∈ vs) → wipe (Ly.sets σ is xs) vs = wipe σ vs
  | [], _, _, _ => rfl
  | _ :: _, [], _, _ => rfl
  | i :: is, x :: xs, σ, h => (wipe_sets (is := is) fun j hj => h j (List.mem_cons_of_mem _ hj)).trans (wipe_set (h i (List.mem_cons_self ..)))
/-- what a target does with an item d: the slots is get es -/
def GT (K : PySem.W.Frag) (g : TG) (is : List Nat) (d : Dt) (es : List Dt) : Prop :=
  is.length = es.length ∧ ∀ (M : Addr → Prop) (H : Hp) (v : V), Is K M H d v → ∃ vs, IsL K M H es vs ∧ ∀ (σ : L2.St) (Q : L2.St → Hp → Prop), Q (Ly.sets σ is vs) H → g v σ H Q
theorem gt_name {i : Nat} : GT K (gName i) [i] d [d] := ⟨rfl, fun M H v h => ⟨[v], .one h, fun σ Q q => q⟩⟩
theorem gt_tup2 {i j : Nat} : GT K (gTup K 2 (gCons (gName i) (gCons (gName j) gNil))) [i, j] (.tup [d, e]) [d, e] := ⟨rfl, fun M H v h => by
  cases h with
  | tup h l =>
    cases l with
    | cons x1 l =>
      cases l with
      | cons x2 l =>
        cases l
        exact ⟨[_, _], .cons x1 (.cons x2 .nil), fun σ Q q => ⟨_, _, rfl, h, rfl, _, _, rfl, _, _, rfl, rfl, q⟩⟩⟩
theorem gt_tup3 {i j n : Nat} : GT K (gTup K 3 (gCons (gName i) (gCons (gName j) (gCons (gName n) gNil)))) [i, j, n] (.tup [d, e, f]) [d, e, f] := ⟨rfl, fun M H v h => by
  cases h with
  | tup h l =>
    cases l with
    | cons x1 l =>
      cases l with
      | cons x2 l =>
        cases l with
        | cons x3 l =>
          cases l
          exact ⟨[_, _, _], .cons x1 (.cons x2 (.cons x3 .nil)), fun σ Q q => ⟨_, _, rfl, h, rfl, _, _, rfl, _, _, rfl, _, _, rfl, rfl, q⟩⟩⟩
theorem q_asgT {g : TG} {is : List Nat} {es : Dt → List Dt} (a : At K Z H0 L Γ σ H) (h : EV K Z H0 L Γ (wS Z L) te P) (hg : ∀ d, P d → GT K g is d (es d)) (k : ∀ d, P d → ∀ σ' H', At K Z H0 L (setsG Γ is (es d)) σ' H' → tz D σ' H') : tSeq (tAsg te g) tz D σ H :=
  h σ H a _ fun d v H' p gg j x => by
    obtain ⟨h1, h2⟩ := hg d p
    obtain ⟨vs, e1, e2⟩ := h2 _ _ _ x
    exact e2 _ _ (k d p _ H' ((a.step gg j).sets e1 h1))

/-! ### what is walked -/
/-- N: what may change meanwhile -/
def IT (K : PySem.W.Frag) (Z : Zn) (H0 : Hp) (L : Own) (Γ : Gam) (N : Addr → Prop) (wi : TI) (PL : List Dt → Prop) : Prop :=
  ∀ σ H, At K Z H0 L Γ σ H → ∀ R : It → Hp → Prop, (∀ items J H1 (G : Hp → Prop) (Y : Nat → Hp → V → Hp → Prop), PL items → Walk J items.length G Y → Gm Z.M H H1 → Z.J H1 → (∀ H', Gm N H1 H' → G H') →
    (∀ i H' x H2, i < items.length → Gm N H1 H' → Y i H' x H2 → Ex H' H2 ∧ ∃ d, items[i]? = some d ∧ Is K N H2 d x) → R J H1) → wi σ H R
/-- a list or a tuple -/
def iSq (K : PySem.W.Frag) (te : TE) : TI := fun σ H R => iList K te σ H R ∨ iTup K te σ H R
theorem pi_sq {X : Cx} {tg iter : Expr} {te : TE} (h1 : PI X tg iter (iList X.K te)) (h2 : PI X tg iter (iTup X.K te)) : PI X tg iter (iSq X.K te) := ⟨fun pins s σ H R I h => by
  rcases h with h | h
  · exact h1.run pins s σ H R I h
  · exact h2.run pins s σ H R I h⟩
theorem it_lst {ds : List Dt} {N : Addr → Prop} (h : EV K Z H0 L Γ (fun _ => N) te (Eq (.lst ds))) : IT K Z H0 L Γ N (iSq K te) (Eq ds) := fun σ H a R k => .inl (h σ H a _ fun d v H1 p g j x => by
  subst p
  cases x with
  | lst e n l =>
    rename_i b xs
    have hl := l.length
    refine ⟨b, rfl, ⟨xs, SqL.of e⟩, k ds _ H1 (fun H' => SqL K H' b xs) (YAt xs) rfl (by rw [hl]; exact walk_list) g j (fun H' g' => SqL.of (g' _ _ e fun m => absurd m n)) fun i H' x H2 hi g' y => ?_⟩
    obtain ⟨rfl, hx⟩ := y
    obtain ⟨d, hd, ix⟩ := l.getV hx
    exact ⟨Ex.refl _, d, hd, ix.mono g'⟩)
theorem it_tup {ds : List Dt} {N : Addr → Prop} (h : EV K Z H0 L Γ (fun _ => N) te (Eq (.tup ds))) : IT K Z H0 L Γ N (iSq K te) (Eq ds) := fun σ H a R k => .inr (h σ H a _ fun d v H1 p g j x => by
  subst p
  cases x with
  | tup e l =>
    rename_i b xs
    have hl := l.length
    refine ⟨b, rfl, ⟨xs, e⟩, k ds _ H1 (fun H' => SqT K H' b xs) (YAt xs) rfl (by rw [hl]; exact walk_tup) g j (fun H' g' => sqt_gm g' e) fun i H' x H2 hi g' y => ?_⟩
    obtain ⟨rfl, hx⟩ := y
    obtain ⟨d, hd, ix⟩ := l.getV hx
    exact ⟨Ex.refl _, d, hd, ix.mono g'⟩)
theorem it_sq {ds : List Dt} {N : Addr → Prop} (s : IsSq d ds) (h : EV K Z H0 L Γ (fun _ => N) te (Eq d)) : IT K Z H0 L Γ N (iSq K te) (Eq ds) := by
  cases s with
  | lst => exact it_lst h
  | tup => exact it_tup h
/-- the numbers lo, lo + 1 .. -/
def rngD (lo : Int) (n : Nat) : List Dt := (List.range n).map fun i : Nat => Dt.int (lo + i)
theorem rngD_len (lo : Int) (n : Nat) : (rngD lo n).length = n := by unfold rngD; rw [List.length_map, List.length_range]
theorem rngD_get {lo : Int} {n i : Nat} (h : i < n) : (rngD lo n)[i]? = some (Dt.int (lo + i)) := by
  unfold rngD
  rw [List.getElem?_map, List.getElem?_range h]
  rfl
theorem it_r1P {ta : TA} {N : Addr → Prop} {PI : Int → Prop} (h : EVA K Z H0 L Γ W ta (fun l => ∃ n : Int, l = [.int n] ∧ PI n)) (hb : ∀ n, PI n → -(2 ^ 62) ≤ n ∧ n < 2 ^ 62) : IT K Z H0 L Γ N (iRng1 ta) (fun l => ∃ n, PI n ∧ l = rngD 0 n.toNat) := fun σ H a R k =>
  h σ H a _ fun ds vs H1 p g j x => by
    obtain ⟨n, rfl, p⟩ := p
    cases x with
    | cons x l =>
      cases l
      cases x
      refine ⟨n, rfl, (hb n p).1, (hb n p).2, k _ _ H1 (fun _ => True) _ ⟨n, p, rfl⟩ (by rw [rngD_len]; exact walk_range) g j (fun _ _ => trivial) fun i H' x H2 hi g' y => ?_⟩
      obtain ⟨rfl, rfl⟩ := y
      rw [rngD_len] at hi
      exact ⟨Ex.refl _, _, rngD_get hi, .int _⟩
theorem it_r1 {ta : TA} {N : Addr → Prop} {n : Nat} (h : EVA K Z H0 L Γ W ta (Eq [.int (n : Int)])) (hb : n < 2 ^ 62 := by decide) : IT K Z H0 L Γ N (iRng1 ta) (Eq (rngD 0 n)) := fun σ H a R k =>
  it_r1P (PI := fun m => m = (n : Int)) (fun σ H a Q k => h σ H a Q fun ds vs H' p => k ds vs H' ⟨_, p.symm, rfl⟩) (fun m e => by subst e; omega) σ H a R fun items J H1 G Y p => k items J H1 G Y (by obtain ⟨m, rfl, rfl⟩ := p; rfl)
theorem it_r2 {ta : TA} {N : Addr → Prop} {lo hi : Int} (h : EVA K Z H0 L Γ W ta (Eq [.int lo, .int hi])) (hb : -(2 ^ 62) ≤ lo ∧ lo < 2 ^ 62 ∧ -(2 ^ 62) ≤ hi ∧ hi < 2 ^ 62) : IT K Z H0 L Γ N (iRng2 ta) (Eq (rngD lo (hi - lo).toNat)) := fun σ H a R k =>
  h σ H a _ fun ds vs H1 p g j x => by
    subst p
    cases x with
    | cons x l =>
      cases l with
      | cons x2 l =>
        cases l
        cases x
        cases x2
        refine ⟨lo, hi, rfl, hb, k _ _ H1 (fun _ => True) _ rfl (by rw [rngD_len]; exact walk_range) g j (fun _ _ => trivial) fun i H' x H2 hi g' y => ?_⟩
        obtain ⟨rfl, rfl⟩ := y
        rw [rngD_len] at hi
        exact ⟨Ex.refl _, _, rngD_get hi, .int _⟩
theorem pair_new {N : Addr → Prop} {H1 H' H2 : Hp} {x y v : V} {p q : Dt} (h1 : Is K N H' p x) (h2 : Is K N H' q y) (h : ∃ T, v = V.ref T ∧ H' T = none ∧ H2 = upd H' T (.tup [x, y])) : Ex H' H2 ∧ Is K N H2 (.tup [p, q]) v := by
  obtain ⟨T, rfl, nT, rfl⟩ := h
  have e : Ex H' (upd H' T (.tup [x, y])) := Ex.new nT
  exact ⟨e, .tup (SqT.of upd_same) (.cons (h1.mono (Gm.ofEx e)) (.cons (h2.mono (Gm.ofEx e)) .nil))⟩

/-! ### for -/
theorem q_for {wi : TI} {g : TG} {PL : List Dt → Prop} {is : List Nat} {es : Dt → List Dt} {β : Type} {I : List Dt → Nat → β → Prop} {Lf : List Dt → Nat → β → Own} {Γf : List Dt → Nat → β → Gam}
    (a : At K Z H0 L Γ σ H) (h : IT K Z H0 L Γ (Mt Z L) wi PL) (hg : ∀ items, PL items → ∀ d ∈ items, GT K g is d (es d)) (hL : ∀ items i b, (Lf items i b).map (·.1) = L.map (·.1))
    (h0 : ∀ items, PL items → ∃ b, I items 0 b ∧ Lf items 0 b = L ∧ Less Γ (Γf items 0 b))
    (hs : ∀ items, PL items → ∀ i d b, items[i]? = some d → I items i b → ∀ H1, Gm (Mt Z L) H0 H1 → ∀ σ' H', At K Z H1 (Lf items i b) (setsG (Γf items i b) is (es d)) σ' H' → ∀ N : L2.St → Hp → Prop,
      (∀ b2 σ2 H2, I items (i + 1) b2 → At K Z H1 (Lf items (i + 1) b2) (Γf items (i + 1) b2) σ2 H2 → N σ2 H2) → ts { D with nx := N, ct := N, bk := tz D } σ' H')
    (hd : ∀ items, PL items → ∀ b, I items items.length b → ∀ σ' H', At K Z H0 (Lf items items.length b) (Γf items items.length b) σ' H' → tz D σ' H') : tSeq (tFor wi g ts) tz D σ H :=
  h σ H a _ fun items J H1 G Y p w gm j hG hY => by
    have a1 := a.step gm j
    have mt : ∀ i b c, Mt Z (Lf items i b) c ↔ Mt Z L c := fun i b c => by unfold Mt; rw [hL]
    have g01 : Gm (Mt Z L) H0 H1 := a.go.trans (gm.weak fun b m => mt_z m)
    refine for_it w (fun i σ' H' => ∃ b, I items i b ∧ At K Z H1 (Lf items i b) (Γf items i b) σ' H') ?_ (fun i σ' H' _ q => ?_) (fun i x σ' H' H2 hi q y => ?_) fun σ' H' q => ?_
    · obtain ⟨b, e1, e2, e3⟩ := h0 items p
      refine ⟨b, e1, ?_⟩
      rw [e2]
      exact (a1.here).less e3
    · obtain ⟨b, e1, e2⟩ := q
      exact hG H' (e2.go.weak fun c m => (mt _ _ c).mp m)
    · obtain ⟨b, e1, e2⟩ := q
      obtain ⟨ex, d, hd, ix⟩ := hY i H' x H2 hi (e2.go.weak fun c m => (mt _ _ c).mp m) y
      obtain ⟨f1, f2⟩ := hg items p d (List.mem_of_getElem? hd)
      obtain ⟨vs, f3, f4⟩ := f2 _ _ _ ix
      obtain ⟨g2, j2⟩ := e2.ex ex
      exact f4 _ _ (hs items p i d b hd e1 H1 g01 _ H2 ((e2.step g2 j2).sets (f3.weak fun c m => (mt _ _ c).mp m) f1) _ fun b2 σ2 H2 q1 q2 => ⟨b2, q1, q2⟩)
    · obtain ⟨b, e1, e2⟩ := q
      exact hd items p b e1 σ' H' (e2.base (g01.weak fun c m => (mt _ _ c).mpr m))

/-! ### comprehensions -/
def wipeG (Γ : Gam) : List Nat → Gam
  | [] => Γ
  | v :: vs => (wipeG Γ vs).set v none
theorem At.clear (a : At K Z H0 L Γ σ H) (i : Nat) : At K Z H0 L (Γ.set i none) (σ.set i none) H := by
  refine { a with len := by rw [List.length_set, List.length_set]; exact a.len, env := fun j e hj => ?_ }
  rcases get_set hj with ⟨h1, h2, h3⟩ | ⟨h1, h2⟩
  · cases h2
  · obtain ⟨w, e1, e2⟩ := a.env j e h2
    exact ⟨w, (List.getElem?_set_ne h1).trans e1, e2⟩
theorem At.wipe (a : At K Z H0 L Γ σ H) : ∀ vs : List Nat, At K Z H0 L (wipeG Γ vs) (L2.wipe σ vs) H
  | [] => a
  | v :: vs => (At.wipe a vs).clear v
/-- what is made of the items xs: those whose test may be true, each something that Pe tells -/
inductive Made {α : Type} (B : α → Bool → Prop) (Pe : α → Dt → Prop) : List α → List Dt → Prop
  | nil : Made B Pe [] []
  | skip {x : α} {xs : List α} {ds : List Dt} : Made B Pe xs ds → B x false → Made B Pe (xs ++ [x]) ds
  | take {x : α} {d : Dt} {xs : List α} {ds : List Dt} : Made B Pe xs ds → B x true → Pe x d → Made B Pe (xs ++ [x]) (ds ++ [d])
theorem Made.len {α : Type} {B : α → Bool → Prop} {Pe : α → Dt → Prop} : ∀ {xs : List α} {ds : List Dt}, Made B Pe xs ds → ds.length ≤ xs.length
  | _, _, .nil => Nat.le_refl _
  | _, _, .skip m _ => by rw [List.length_append]; exact Nat.le_succ_of_le m.len
  | _, _, .take m _ _ => by rw [List.length_append, List.length_append]; exact Nat.succ_le_succ m.len
theorem Made.fun {α : Type} {p : α → Bool} {f : α → Dt} : ∀ {xs : List α} {ds : List Dt}, Made (fun x b => p x = b) (fun x d => f x = d) xs ds → ds = (xs.filter p).map f
  | _, _, .nil => rfl
  | _, _, .skip m h => by rw [List.filter_append, List.map_append, ← m.fun, List.filter_cons, if_neg (by rw [h]; exact Bool.false_ne_true)]; exact (List.append_nil _).symm
  | _, _, .take m h e => by rw [List.filter_append, List.map_append, ← m.fun, List.filter_cons, if_pos h, ← e]; rfl
theorem ev_lcP [w : Wd K Z L W] {α : Type} {wi : TI} {g : TG} {vs is : List Nat} {xs : List α} {h : α → Dt} {es : α → List Dt} {N : Addr → Prop} {B : α → Bool → Prop} {Pe : α → Dt → Prop}
    (hi : IT K Z H0 L Γ N wi (Eq (xs.map h))) (hN : (∀ b, N b ↔ Mt Z L b) ∨ ((∀ b, N b ↔ Z.M b) ∧ ∀ x ∈ xs, Imm (h x))) (hz : xs.length ≤ 100000) (hg : ∀ x ∈ xs, GT K g is (h x) (es x)) (hv : ∀ i ∈ is, i ∈ vs)
    (ht : ∀ x ∈ xs, EVT K Z H0 L (setsG (wipeG Γ vs) is (es x)) tt (B x)) (he : ∀ x ∈ xs, B x true → EV K Z H0 L (setsG (wipeG Γ vs) is (es x)) wF te (Pe x)) :
    EV K Z H0 L Γ W (tLc wi g tt te vs) (fun d => ∃ ds, d = .lst ds ∧ Made B Pe xs ds) := fun σ H a Q k => by
  refine hi σ H a _ fun items J H1 G Y p wk gm j hG hY D hD => ?_
  subst p
  have a1 := a.step gm j
  have Nw : ∀ {x H2 v}, x ∈ xs → Is K N H2 (h x) v → Is K (Mt Z L) H2 (h x) v := fun {x H2 v} hx q => by
    rcases hN with n | n
    · exact q.weak fun b m => (n b).mpr m
    · exact (n.2 x hx).any _ _ _ _ _ q
  have nD : ¬ Mt Z L D := fun m => a1.ne m hD
  have ND : ¬ N D := fun m => by
    rcases hN with n | n
    · exact nD ((n D).mp m)
    · exact nD (.inl ((n.1 D).mp m))
  have NZ : ∀ b, Z.M b → N b := fun b m => by
    rcases hN with n | n
    · exact (n b).mpr (.inl m)
    · exact (n.1 b).mpr m
  have wD : ¬ W H D := fun m => w.hi a1 (w.up a gm j m) hD
  -- D may be written: what was known ahead of it stays
  have step : ∀ {H3 acc}, Gm Z.M H1 H3 → Z.J H3 → Gm Z.M H1 (upd H3 D (.lst acc)) ∧ Z.J (upd H3 D (.lst acc)) := fun {H3 acc} g3 j3 => by
    refine ⟨fun b o e m => ?_, Z.loc H3 _ j3 fun b m => upd_ne fun q => nD (.inl (q ▸ m))⟩
    rw [upd_ne (ne_of_none e hD)]
    exact g3 b o e m
  refine lc_it wk (fun i H' => ∃ acc ds, H' D = some (.lst acc) ∧ IsL K (fun b => b = D ∨ W H b) H' ds acc ∧ Made B Pe (xs.take i) ds ∧ Gm Z.M H1 H' ∧ Z.J H') ?_ (fun i H' _ q => ?_) (fun i x H' H2 hlt q y => ?_) fun H' q => ?_
  · obtain ⟨g3, j3⟩ := step (Gm.refl H1) j (acc := [])
    exact ⟨[], [], upd_same, .nil, .nil, g3, j3⟩
  · obtain ⟨acc, ds, _, _, _, g3, j3⟩ := q
    exact hG H' (g3.weak NZ)
  · obtain ⟨acc, ds, hacc, hds, hm, g3, j3⟩ := q
    rw [List.length_map] at hlt
    obtain ⟨ex, d, hd, ix⟩ := hY i H' x H2 (by rw [List.length_map]; exact hlt) (g3.weak NZ) y
    have ex0 : xs[i]? = some xs[i] := List.getElem?_eq_getElem hlt
    have hx : xs[i] ∈ xs := List.getElem_mem hlt
    rw [List.getElem?_map, ex0] at hd
    have hd := Option.some.inj hd
    subst hd
    have ix : Is K (Mt Z L) H2 (h xs[i]) x := Nw hx ix
    have a2 : At K Z H0 L Γ σ H2 := by
      have a3 := a1.step g3 j3
      obtain ⟨g4, j4⟩ := a3.ex ex
      exact a3.step g4 j4
    have g2 : Gm Z.M H1 H2 := g3.trans (Gm.ofEx ex)
    obtain ⟨f1, f2⟩ := hg _ hx
    obtain ⟨ws, f3, f4⟩ := f2 _ _ _ ix
    refine f4 _ _ ⟨wipe_sets hv |>.trans (by
      refine List.ext_getElem? fun n => ?_
      rw [wipe_at, wipe_at, wipe_length]
      by_cases q : n ∈ vs
      · rw [if_pos q, if_pos q]
      · rw [if_neg q, if_neg q]), ?_⟩
    have a4 := (a2.wipe vs).sets f3 f1
    have tk : xs.take (i + 1) = xs.take i ++ [xs[i]] := by rw [List.take_add_one, ex0]; rfl
    refine ht _ hx _ H2 a4 _ fun b H3 pb g5 j5 => ?_
    have g6 : Gm Z.M H1 H3 := g2.trans g5
    have up : ∀ {H4}, Gm Z.M H2 H4 → H4 D = some (.lst acc) ∧ IsL K (fun b => b = D ∨ W H b) H4 ds acc := fun {H4} g7 => by
      have e2 := ex D _ hacc
      refine ⟨g7 D _ e2 fun m => absurd (.inl m) nD, (hds.mono (Gm.ofEx ex)).mono (g7.weak fun b m => .inr (w.lo a m))⟩
    cases b with
    | true =>
      refine iteT (he _ hx pb _ H3 (a4.step g5 j5) _ fun d v H4 pd g7 j7 iv => ?_)
      obtain ⟨u1, u2⟩ := up (g5.trans g7)
      have len : acc.length ≤ 100000 := by
        have := hm.len
        rw [u2.length, List.length_take] at this
        omega
      obtain ⟨g8, j8⟩ := step (g6.trans g7) j7 (acc := acc ++ [v])
      have g38 := a1.step g6 j5
      have iv : Is K (fun b => b = D ∨ W H b) H4 d v := iv.weak fun b m => by
        rcases m with m | m
        · subst m
          show H3 b ≠ none
          rw [g5 b _ (ex b _ hacc) fun m => absurd (.inl m) nD]
          exact fun q => nomatch q
        · exact w.hi g38 (w.up a (gm.trans g6) j5 m)
      have gD : Gm (fun b => b = D ∨ W H b) H4 (upd H4 D (.lst (acc ++ [v]))) := fun b o e m => by
        by_cases q : b = D
        · subst q
          rw [u1] at e
          cases e
          exact absurd (m (.inl rfl)) fun z => z
        · rw [upd_ne q]
          exact e
      exact ⟨acc, u1, Nat.lt_of_le_of_lt len (by decide), acc ++ [v], ds ++ [d], upd_same, (u2.append (.one iv)).mono gD, by rw [tk]; exact .take hm pb pd, g8, j8⟩
    | false =>
      refine iteF ⟨acc, ds, ?_⟩
      obtain ⟨u1, u2⟩ := up g5
      exact ⟨u1, u2, by rw [tk]; exact .skip hm pb, g6, j5⟩
  · obtain ⟨acc, ds, hacc, hds, hm, g3, j3⟩ := q
    rw [List.length_map, List.take_length] at hm
    exact k _ _ H' ⟨ds, rfl, hm⟩ (gm.trans g3) j3 (.lst hacc wD (hds.weak fun b m => .inr m))
end
end Ly
end
section
set_option Elab.async false
set_option linter.all false
set_option maxRecDepth 100000
set_option maxHeartbeats 2000000
set_option autoImplicit false
namespace Ly
open PySem L2
section
variable {K : PySem.W.Frag} {Z : Zn} {H0 H1 : Hp} {L L' : Own} {Γ Γ' : Gam} {σ : L2.St} {H H' : Hp}
variable {W W' W1 W2 : Hp → Addr → Prop} {te ta tb : TE} {tt tu : TT} {P P1 P2 : Dt → Prop} {d e f : Dt} {D : Ends} {tz ts ts' : TS} {ds es : List Dt}
theorem len100 {n : Nat} (h : n ≤ 100000) : n ≤ sizeLine := Nat.le_trans h (by decide)

/-! ### comprehensions, plainly -/
theorem ev_lc [w : Wd K Z L W] {α : Type} {wi : TI} {g : TG} {vs is : List Nat} {xs : List α} {h : α → Dt} {es : α → List Dt} {N : Addr → Prop} {p : α → Bool} {fn : α → Dt}
    (hi : IT K Z H0 L Γ N wi (Eq (xs.map h))) (hN : (∀ b, N b ↔ Mt Z L b) ∨ ((∀ b, N b ↔ Z.M b) ∧ ∀ x ∈ xs, Imm (h x))) (hz : xs.length ≤ 100000) (hg : ∀ x ∈ xs, GT K g is (h x) (es x)) (hv : ∀ i ∈ is, i ∈ vs)
    (ht : ∀ x ∈ xs, EVT K Z H0 L (setsG (wipeG Γ vs) is (es x)) tt (Eq (p x))) (he : ∀ x ∈ xs, p x = true → EV K Z H0 L (setsG (wipeG Γ vs) is (es x)) wF te (Eq (fn x))) :
    EV K Z H0 L Γ W (tLc wi g tt te vs) (Eq (.lst ((xs.filter p).map fn))) :=
  (ev_lcP hi hN hz hg hv ht he).to fun d q => by
    obtain ⟨ds, rfl, m⟩ := q
    rw [m.fun]
theorem ev_lcM [w : Wd K Z L W] {α : Type} {wi : TI} {g : TG} {vs is : List Nat} {xs : List α} {h : α → Dt} {es : α → List Dt} {N : Addr → Prop} {fn : α → Dt}
    (hi : IT K Z H0 L Γ N wi (Eq (xs.map h))) (hN : (∀ b, N b ↔ Mt Z L b) ∨ ((∀ b, N b ↔ Z.M b) ∧ ∀ x ∈ xs, Imm (h x))) (hz : xs.length ≤ 100000) (hg : ∀ x ∈ xs, GT K g is (h x) (es x)) (hv : ∀ i ∈ is, i ∈ vs)
    (he : ∀ x ∈ xs, EV K Z H0 L (setsG (wipeG Γ vs) is (es x)) wF te (Eq (fn x))) :
    EV K Z H0 L Γ W (tLc wi g tYes te vs) (Eq (.lst (xs.map fn))) :=
  (ev_lc (p := fun _ => true) hi hN hz hg hv (fun _ _ => et_yes) fun x hx _ => he x hx).eq (by rw [List.filter_eq_self.mpr fun _ _ => rfl])

/-! ### operations on values -/
theorem RR.l {r r' : R2} (h : RR K r d e P) : RR K (fun x y H Q => r x y H Q ∨ r' x y H Q) d e P := fun M H x y hx hy Q k => .inl (h M H x y hx hy Q k)
theorem RR.r {r r' : R2} (h : RR K r' d e P) : RR K (fun x y H Q => r x y H Q ∨ r' x y H Q) d e P := fun M H x y hx hy Q k => .inr (h M H x y hx hy Q k)
theorem rr_I0 {g : Int → Int → V} {d : Dt} {i j : Int} (h : ∀ M H, Is K M H d (g i j)) : RR K (rI0 g) (.int i) (.int j) (Eq d) := fun M H x y hx hy Q k => by
  cases hx
  cases hy
  exact ⟨i, j, rfl, rfl, k _ _ H rfl (Ex.refl H) (h _ _)⟩
theorem rr_I {C : Int → Int → Prop} {g : Int → Int → V} {d : Dt} {i j : Int} (hc : C i j) (h : ∀ M H, Is K M H d (g i j)) : RR K (rI C g) (.int i) (.int j) (Eq d) := fun M H x y hx hy Q k => by
  cases hx
  cases hy
  exact ⟨i, j, rfl, rfl, hc, k _ _ H rfl (Ex.refl H) (h _ _)⟩
/-- + : ints, tuples, lists, texts -/
def rAddU (K : PySem.W.Frag) : R2 := fun x y H Q => rI0 (fun i j => .int (i + j)) x y H Q ∨ (rCatA K x y H Q ∨ (rCat x y H Q ∨ ∃ i j, x = .str i ∧ y = .str j ∧ i.length + j.length ≤ sizeLine ∧ Q (.str (i ++ j)) H))
theorem op_addU {X : Cx} : OpR X (binaryOp .Add) (rAddU X.K) := op_add.or (op_catA.or (op_cat.or op_add_str))
theorem rr_addI {i j : Int} : RR K (rAddU K) (.int i) (.int j) (Eq (.int (i + j))) := RR.l (rr_I0 fun _ _ => .int _)
theorem rr_addT [i : ImmL ds] [j : ImmL es] (h : ds.length + es.length ≤ 100000) : RR K (rAddU K) (.tup ds) (.tup es) (Eq (.tup (ds ++ es))) := RR.r (RR.l fun M H x y hx hy Q k => by
  cases hx with
  | tup hx lx =>
    cases hy with
    | tup hy ly =>
      have e1 := lx.length
      have e2 := ly.length
      rename_i a xs b ys
      refine ⟨a, b, xs, ys, rfl, rfl, hx, hy, len100 (by omega), fun z => ?_, fun _ z => ?_, fun _ _ p hp => ?_⟩
      · subst z
        cases lx
        exact k _ _ H rfl (Ex.refl H) (.tup hy (j.any _ _ _ _ _ ly))
      · subst z
        cases ly
        exact k _ _ H (by rw [List.append_nil]) (Ex.refl H) (.tup hx (i.any _ _ _ _ _ lx))
      · refine k _ _ _ rfl (Ex.new hp) (.tup (SqT.of upd_same) ?_)
        exact ((i.any _ _ (fun _ => False) _ _ lx).append (j.any _ _ _ _ _ ly)).mono (Gm.new hp) |> (immL_any (fun q hq => (List.mem_append.mp hq).elim (i.all q) (j.all q)) K _ _ _ _))
theorem rr_addL [i : ImmL ds] [j : ImmL es] (h : ds.length + es.length ≤ 100000) : RR K (rAddU K) (.lst ds) (.lst es) (Eq (.lst (ds ++ es))) := RR.r (RR.r (RR.l fun M H x y hx hy Q k => by
  cases hx with
  | lst hx nx lx =>
    cases hy with
    | lst hy ny ly =>
      have e1 := lx.length
      have e2 := ly.length
      rename_i a xs b ys
      refine ⟨a, b, xs, ys, rfl, rfl, hx, hy, len100 (by omega), fun p hp => ?_⟩
      refine k _ _ _ rfl (Ex.new hp) (.lst upd_same (fun m => m hp) ?_)
      exact ((i.any _ _ (fun _ => False) _ _ lx).append (j.any _ _ _ _ _ ly)).mono (Gm.new hp) |> (immL_any (fun q hq => (List.mem_append.mp hq).elim (i.all q) (j.all q)) K _ _ _ _)))
theorem rr_sub {i j : Int} : RR K (rI0 fun i j => .int (i - j)) (.int i) (.int j) (Eq (.int (i - j))) := rr_I0 fun _ _ => .int _
theorem rr_mod {i j : Int} (h : 0 < j) : RR K (rI (fun _ j => 0 < j) fun i j => .int (i % j)) (.int i) (.int j) (Eq (.int (i % j))) := rr_I h fun _ _ => .int _
theorem rr_fdiv {i j : Int} (h : CDivW i j) : RR K (rI CDivW fun i j => .int (i / j)) (.int i) (.int j) (Eq (.int (i / j))) := rr_I h fun _ _ => .int _
theorem rr_lt {i j : Int} : RR K (rI0 fun i j => .bl (decide (i < j))) (.int i) (.int j) (Eq (.bl (decide (i < j)))) := rr_I0 fun _ _ => .bl _
theorem rr_le {i j : Int} : RR K (rI0 fun i j => .bl (decide (i ≤ j))) (.int i) (.int j) (Eq (.bl (decide (i ≤ j)))) := rr_I0 fun _ _ => .bl _
theorem rr_gt {i j : Int} : RR K (rI0 fun i j => .bl (decide (j < i))) (.int i) (.int j) (Eq (.bl (decide (j < i)))) := rr_I0 fun _ _ => .bl _
theorem rr_ge {i j : Int} : RR K (rI0 fun i j => .bl (decide (j ≤ i))) (.int i) (.int j) (Eq (.bl (decide (j ≤ i)))) := rr_I0 fun _ _ => .bl _
theorem ru_neg {i : Int} : RU K (rU fun i => .int (-i)) (.int i) (Eq (.int (-i))) := fun M H x hx Q k => by
  cases hx
  exact ⟨i, rfl, k _ _ H rfl (Ex.refl H) (.int _)⟩
/-- x is None, x is not None -/
def Dt.isN : Dt → Bool
  | .non => true
  | .raw v => decide (v = .non)
  | _ => false
theorem isN_ok {M : Addr → Prop} {x : V} (h : Is K M H d x) : decide (x = .non) = d.isN := by
  cases h <;> rfl
theorem rr_isN : RR K (fun x y H Q => y = .non ∧ Q (.bl (decide (x = .non))) H) d .non (Eq (.bl d.isN)) := fun M H x y hx hy Q k => by
  cases hy
  exact ⟨rfl, by rw [isN_ok hx]; exact k _ _ H rfl (Ex.refl H) (.bl _)⟩
theorem rr_notN : RR K (fun x y H Q => y = .non ∧ Q (.bl (!decide (x = .non))) H) d .non (Eq (.bl (!d.isN))) := fun M H x y hx hy Q k => by
  cases hy
  exact ⟨rfl, by rw [isN_ok hx]; exact k _ _ H rfl (Ex.refl H) (.bl _)⟩

/-! ### == of data -/
mutual
def Dt.pd : Dt → PyData
  | .non => .none
  | .bl b => .bool b
  | .int i => .int i
  | .str x => .str x
  | .tup xs => .tuple (pdL xs)
  | .lst xs => .list (pdL xs)
  | _ => .none
def pdL : List Dt → List PyData
  | [] => []
  | d :: ds => d.pd :: pdL ds
end
mutual
/-- data that == compares item by item -/
def Dt.ok : Dt → Bool
  | .non => true
  | .bl b => true
  | .int i => true
  | .str x => decide (x.length ≤ 100000)
  | .tup xs => okL xs
  | .lst xs => okL xs
  | _ => false
def okL : List Dt → Bool
  | [] => true
  | d :: ds => d.ok && okL ds
end
mutual
theorem Is.dp {M : Addr → Prop} : ∀ {d : Dt} {v : V}, Is K M H d v → d.ok = true → Dp K H v d.pd
  | _, _, .non, _ => .non
  | _, _, .bl b, _ => .bl b
  | _, _, .int i, _ => .int i
  | _, _, .str x, _ => .str x
  | _, _, .tup h l, o => .tup h (IsL.dp l o)
  | _, _, .lst h n l, o => .lst (SqL.of h) (IsL.dp l o)
  | _, _, .ty n, o => by cases o
  | _, _, .ins _ _, o => by cases o
  | _, _, .dct _ _ _, o => by cases o
  | _, _, .raw _, o => by cases o
theorem IsL.dp {M : Addr → Prop} : ∀ {ds : List Dt} {vs : List V}, IsL K M H ds vs → okL ds = true → DpAll K H vs (pdL ds)
  | _, _, .nil, _ => .nil
  | _, _, .cons h l, o => .cons (Is.dp h (Bool.and_eq_true_iff.mp o).1) (IsL.dp l (Bool.and_eq_true_iff.mp o).2)
end
/-- == : None, bools, ints, texts; data -/
def rEqU (K : PySem.W.Frag) : R2 := fun x y H Q => rEq x y H Q ∨ rEqD K x y H Q
def rNeU (K : PySem.W.Frag) : R2 := fun x y H Q => rNe x y H Q ∨ rNeD K x y H Q
theorem op_eqU {X : Cx} (hu : X.A.units + 64 < cLine) : OpR X (compareOp .Eq) (rEqU X.K) := op_eq.or (op_eqD hu)
theorem op_neU {X : Cx} (hu : X.A.units + 64 < cLine) : OpR X (compareOp .NotEq) (rNeU X.K) := op_ne.or (op_neD hu)
theorem rr_eqI {i j : Int} : RR K (rEqU K) (.int i) (.int j) (Eq (.bl (decide (i = j)))) := RR.l fun M H x y hx hy Q k => by
  cases hx
  cases hy
  refine ⟨rfl, ?_⟩
  rw [dec_int, Bool.beq_eq_decide_eq]
  exact k _ _ H rfl (Ex.refl H) (.bl _)
theorem rr_neI {i j : Int} : RR K (rNeU K) (.int i) (.int j) (Eq (.bl (!decide (i = j)))) := RR.l fun M H x y hx hy Q k => by
  cases hx
  cases hy
  refine ⟨rfl, ?_⟩
  rw [dec_int, Bool.beq_eq_decide_eq]
  exact k _ _ H rfl (Ex.refl H) (.bl _)
theorem rr_eqS {i j : Str} : RR K (rEqU K) (.str i) (.str j) (Eq (.bl (i == j))) := RR.l fun M H x y hx hy Q k => by
  cases hx
  cases hy
  refine ⟨rfl, ?_⟩
  rw [dec_str]
  exact k _ _ H rfl (Ex.refl H) (.bl _)
theorem rr_neS {i j : Str} : RR K (rNeU K) (.str i) (.str j) (Eq (.bl (!(i == j)))) := RR.l fun M H x y hx hy Q k => by
  cases hx
  cases hy
  refine ⟨rfl, ?_⟩
  rw [dec_str]
  exact k _ _ H rfl (Ex.refl H) (.bl _)
theorem rr_eqB {i j : Bool} : RR K (rEqU K) (.bl i) (.bl j) (Eq (.bl (i == j))) := RR.l fun M H x y hx hy Q k => by
  cases hx
  cases hy
  refine ⟨rfl, ?_⟩
  rw [dec_bl]
  exact k _ _ H rfl (Ex.refl H) (.bl _)
theorem rr_neB {i j : Bool} : RR K (rNeU K) (.bl i) (.bl j) (Eq (.bl (!(i == j)))) := RR.l fun M H x y hx hy Q k => by
  cases hx
  cases hy
  refine ⟨rfl, ?_⟩
  rw [dec_bl]
  exact k _ _ H rfl (Ex.refl H) (.bl _)
theorem rr_eqD (ho : d.ok = true) (hp : e.ok = true) (s1 : SeqAt.shaped d.pd = true) (s2 : SeqAt.shaped e.pd = true) : RR K (rEqU K) d e (Eq (.bl (PyData.eqv d.pd e.pd))) := RR.r fun M H x y hx hy Q k =>
  ⟨_, _, hx.dp ho, hy.dp hp, s1, s2, k _ _ H rfl (Ex.refl H) (.bl _)⟩
theorem rr_neD (ho : d.ok = true) (hp : e.ok = true) (s1 : SeqAt.shaped d.pd = true) (s2 : SeqAt.shaped e.pd = true) : RR K (rNeU K) d e (Eq (.bl (!PyData.eqv d.pd e.pd))) := RR.r fun M H x y hx hy Q k =>
  ⟨_, _, hx.dp ho, hy.dp hp, s1, s2, k _ _ H rfl (Ex.refl H) (.bl _)⟩

/-! ### items, slices -/
theorem ix_nat {α : Type} {l : List α} {i : Int} {x : α} (h0 : 0 ≤ i) (h : l[i.toNat]? = some x) : atI l i = some x := by
  have e : i = (i.toNat : Int) := (Int.toNat_of_nonneg h0).symm
  rw [e]
  exact atI_nat h
theorem IsL.atI {M : Addr → Prop} {vs : List V} {i : Int} (l : IsL K M H ds vs) (h : L2.atI ds i = some d) : ∃ v, L2.atI vs i = some v ∧ Is K M H d v := by
  unfold L2.atI at h ⊢
  rw [← l.length]
  cases q : ixN ds.length i with
  | none =>
    rw [q] at h
    cases h
  | some j =>
    rw [q] at h
    exact l.get h
theorem rr_ixL {i : Int} [m : Imm d] (h : L2.atI ds i = some d) : RR K (rIx K) (.lst ds) (.int i) (Eq d) := fun M H x y hx hy Q k => by
  cases hy
  cases hx with
  | lst hx nx lx =>
    obtain ⟨v, e, iv⟩ := lx.atI h
    exact .inl ⟨_, _, i, v, rfl, rfl, SqL.of hx, e, k _ _ H rfl (Ex.refl H) (m.any _ _ _ _ _ iv)⟩
theorem rr_ixT {i : Int} [m : Imm d] (h : L2.atI ds i = some d) : RR K (rIx K) (.tup ds) (.int i) (Eq d) := fun M H x y hx hy Q k => by
  cases hy
  cases hx with
  | tup hx lx =>
    obtain ⟨v, e, iv⟩ := lx.atI h
    exact .inr (.inl ⟨_, _, i, v, rfl, rfl, hx, e, k _ _ H rfl (Ex.refl H) (m.any _ _ _ _ _ iv)⟩)
/-- the part of a list that a slice tells -/
def cutD {α : Type} (xs : List α) (lo hi : Option Int) : List α := (xs.drop (HT.sIx xs.length 0 lo)).take (HT.sIx xs.length xs.length hi - HT.sIx xs.length 0 lo)
theorem cutD_map {α β : Type} (f : α → β) (xs : List α) (lo hi : Option Int) : cutD (xs.map f) lo hi = (cutD xs lo hi).map f := by
  unfold cutD
  rw [List.length_map, ← List.map_drop, ← List.map_take]
theorem IsL.cut {M : Addr → Prop} {vs : List V} (l : IsL K M H ds vs) (lo hi : Option Int) : IsL K M H (cutD ds lo hi) (cutV vs lo hi) := by
  unfold cutD cutV
  rw [← l.length]
  exact (l.drop _).take _
def EVO (K : PySem.W.Frag) (Z : Zn) (H0 : Hp) (L : Own) (Γ : Gam) (t : TO) (o : Option Int) : Prop :=
  ∀ σ H, At K Z H0 L Γ σ H → ∀ Q : Option Int → Hp → Prop, (∀ H', Gm Z.M H H' → Z.J H' → Q o H') → t σ H Q
theorem eo_none : EVO K Z H0 L Γ tNoPart none := fun σ H a Q k => k H (Gm.refl H) a.j
theorem eo_some {i : Int} (h : EV K Z H0 L Γ W te (Eq (.int i))) : EVO K Z H0 L Γ (tPart te) (some i) := fun σ H a Q k => h σ H a _ fun d v H' p g j x => by
  subst p
  cases x
  exact ⟨i, rfl, k H' g j⟩
def rSlU (K : PySem.W.Frag) : V → Option Int → Option Int → Hp → VK → Prop := fun x lo hi H Q => rSlL K x lo hi H Q ∨ rSlA K x lo hi H Q
theorem sl_U {X : Cx} : SlR X (rSlU X.K) := sl_list.or sl_tupA
theorem ev_slice [w : Wd K Z L W] {tl th : TO} {lo hi : Option Int} (s : IsSq d ds) [i : ImmL ds] (h : EV K Z H0 L Γ (wW Z) te (Eq d)) (h1 : EVO K Z H0 L Γ tl lo) (h2 : EVO K Z H0 L Γ th hi)
    (hP : ∀ f, IsSq f (cutD ds lo hi) → (∃ xs, d = .lst xs ∧ f = .lst (cutD ds lo hi)) ∨ (∃ xs, d = .tup xs ∧ f = .tup (cutD ds lo hi)) → P f) : EV K Z H0 L Γ W (tSl (rSlU K) te tl th) P := fun σ H a Q k =>
  h σ H a _ fun d' x H1 p1 g1 j1 i1 => h1 σ H1 (a.step g1 j1) _ fun H2 g2 j2 => h2 σ H2 (a.step (g1.trans g2) j2) _ fun H3 g3 j3 => by
    subst p1
    have g4 := (g1.trans g2).trans g3
    have a4 := a.step g4 j3
    have ix := (i1.mono g2).mono g3
    have ic : ∀ q ∈ cutD ds lo hi, Imm q := fun q hq => i.all q (List.mem_of_mem_drop (List.mem_of_mem_take hq))
    cases s with
    | lst =>
      cases ix with
      | lst hx nx lx =>
        refine .inl ⟨_, _, rfl, SqL.of hx, fun p hp => ?_⟩
        refine fin_ex (P := P) (d := .lst (cutD ds lo hi)) a g4 j3 (Ex.new hp) (.lst upd_same (fun m => m hp) ?_) (hP _ (.lst _) (.inl ⟨_, rfl, rfl⟩)) k
        exact (immL_any ic K _ (fun _ => False) _ _ (lx.cut lo hi)).mono (Gm.new hp) |> immL_any ic K _ _ _ _
    | tup =>
      cases ix with
      | tup hx lx =>
        rename_i b xs
        have lc := lx.cut lo hi
        refine .inr ⟨b, xs, rfl, hx, fun q => ?_, fun _ p hp => ?_⟩
        · have e : cutD ds lo hi = ds := by
            unfold cutD
            rw [lx.length, q.1, q.2, List.drop_zero, Nat.sub_zero, ← lx.length, List.take_length]
          refine fin_ex (P := P) (d := .tup (cutD ds lo hi)) a g4 j3 (Ex.refl H3) (.tup hx ?_) (hP _ (.tup _) (.inr ⟨_, rfl, rfl⟩)) k
          rw [e]
          exact i.any _ _ _ _ _ lx
        · refine fin_ex (P := P) (d := .tup (cutD ds lo hi)) a g4 j3 (Ex.new hp) (.tup (SqT.of upd_same) ?_) (hP _ (.tup _) (.inr ⟨_, rfl, rfl⟩)) k
          exact (immL_any ic K _ (fun _ => False) _ _ lc).mono (Gm.new hp) |> immL_any ic K _ _ _ _
theorem ev_slL [w : Wd K Z L W] {tl th : TO} {lo hi : Option Int} [i : ImmL ds] (h : EV K Z H0 L Γ (wW Z) te (Eq (.lst ds))) (h1 : EVO K Z H0 L Γ tl lo) (h2 : EVO K Z H0 L Γ th hi) : EV K Z H0 L Γ W (tSl (rSlU K) te tl th) (Eq (.lst (cutD ds lo hi))) :=
  ev_slice (.lst ds) h h1 h2 fun f _ q => by
    rcases q with ⟨_, _, q⟩ | ⟨_, q, _⟩
    · exact q.symm
    · cases q
theorem ev_slT [w : Wd K Z L W] {tl th : TO} {lo hi : Option Int} [i : ImmL ds] (h : EV K Z H0 L Γ (wW Z) te (Eq (.tup ds))) (h1 : EVO K Z H0 L Γ tl lo) (h2 : EVO K Z H0 L Γ th hi) : EV K Z H0 L Γ W (tSl (rSlU K) te tl th) (Eq (.tup (cutD ds lo hi))) :=
  ev_slice (.tup ds) h h1 h2 fun f _ q => by
    rcases q with ⟨_, q, _⟩ | ⟨_, _, q⟩
    · cases q
    · exact q.symm
theorem ev_rev [w : Wd K Z L W] [i : ImmL ds] (h : EV K Z H0 L Γ (wW Z) te (Eq (.lst ds))) : EV K Z H0 L Γ W (tRevL K te) (Eq (.lst ds.reverse)) := fun σ H a Q k =>
  h σ H a _ fun d' x H1 p1 g1 j1 i1 => by
    subst p1
    cases i1 with
    | lst hx nx lx =>
      refine ⟨_, _, rfl, SqL.of hx, fun p hp => ?_⟩
      have ic : ∀ q ∈ ds.reverse, Imm q := fun q hq => i.all q (List.mem_reverse.mp hq)
      refine fin_ex (P := Eq (.lst ds.reverse)) a g1 j1 (Ex.new hp) (.lst upd_same (fun m => m hp) ?_) rfl k
      exact (immL_any ic K _ (fun _ => False) _ _ lx.reverse).mono (Gm.new hp) |> immL_any ic K _ _ _ _

/-! ### built-ins by their values -/
theorem rc_len (s : IsSq d ds) : RC K (fun xs H Q => ∃ x n, xs = [x] ∧ LenV K x H n ∧ Q (.int n) H) [d] (Eq (.int ds.length)) := fun M H vs h Q k => by
  cases h with
  | cons h l =>
    cases l
    obtain ⟨a, xs, rfl, l, q⟩ := s.at h
    refine ⟨_, xs.length, rfl, q.elim (fun q => .inl ⟨xs, q, rfl⟩) fun q => .inr ⟨xs, q, rfl⟩, ?_⟩
    rw [← l.length]
    exact k _ _ H rfl (Ex.refl H) (.int _)
theorem rc_tuple (s : IsSq d ds) [i : ImmL ds] : RC K (fun xs H Q => ∃ p ys, xs = [.ref p] ∧ ((SqL K H p ys ∧ ∀ l, H l = none → Q (.ref l) (upd H l (.tup ys))) ∨ (SqT K H p ys ∧ Q (.ref p) H))) [d] (Eq (.tup ds)) := fun M H vs h Q k => by
  cases h with
  | cons h l =>
    cases l
    obtain ⟨a, xs, rfl, l, q⟩ := s.at h
    refine ⟨a, xs, rfl, q.elim (fun q => .inl ⟨q, fun p hp => ?_⟩) fun q => .inr ⟨q, ?_⟩⟩
    · exact k _ _ _ rfl (Ex.new hp) (.tup (SqT.of upd_same) ((i.any _ _ (fun _ => False) _ _ l).mono (Gm.new hp) |> i.any _ _ _ _ _))
    · exact k _ _ H rfl (Ex.refl H) (.tup q (i.any _ _ _ _ _ l))
theorem rc_list (s : IsSq d ds) [i : ImmL ds] : RC K (fun xs H Q => ∃ p ys, xs = [.ref p] ∧ (SqL K H p ys ∨ SqT K H p ys) ∧ ∀ l, H l = none → Q (.ref l) (upd H l (.lst ys))) [d] (Eq (.lst ds)) := fun M H vs h Q k => by
  cases h with
  | cons h l =>
    cases l
    obtain ⟨a, xs, rfl, l, q⟩ := s.at h
    refine ⟨a, xs, rfl, q, fun p hp => ?_⟩
    exact k _ _ _ rfl (Ex.new hp) (.lst upd_same (fun m => m hp) ((i.any _ _ (fun _ => False) _ _ l).mono (Gm.new hp) |> i.any _ _ _ _ _))
def rInt1 : List V → Hp → VK → Prop := fun xs H Q => (∃ i, xs = [.int i] ∧ Q (.int i) H) ∨ ∃ k, xs = [.bl k] ∧ Q (.int (if k then 1 else 0)) H
theorem rc_intI {i : Int} : RC K rInt1 [.int i] (Eq (.int i)) := fun M H vs h Q k => by
  cases h with
  | cons h l =>
    cases l
    cases h
    exact .inl ⟨i, rfl, k _ _ H rfl (Ex.refl H) (.int _)⟩
theorem rc_intB {b : Bool} : RC K rInt1 [.bl b] (Eq (.int (if b then 1 else 0))) := fun M H vs h Q k => by
  cases h with
  | cons h l =>
    cases l
    cases h
    exact .inr ⟨b, rfl, k _ _ H rfl (Ex.refl H) (.int _)⟩
theorem rc_abs {i : Int} : RC K (fun xs H Q => ∃ i, xs = [.int i] ∧ Q (.int (if i < 0 then -i else i)) H) [.int i] (Eq (.int (if i < 0 then -i else i))) := fun M H vs h Q k => by
  cases h with
  | cons h l =>
    cases l
    cases h
    exact ⟨i, rfl, k _ _ H rfl (Ex.refl H) (.int _)⟩
theorem rc_max {i j : Int} : RC K (fun xs H Q => ∃ i j, xs = [.int i, .int j] ∧ Q (.int (if j > i then j else i)) H) [.int i, .int j] (Eq (.int (if j > i then j else i))) := fun M H vs h Q k => by
  cases h with
  | cons h l =>
    cases l with
    | cons h2 l =>
      cases l
      cases h
      cases h2
      exact ⟨i, j, rfl, k _ _ H rfl (Ex.refl H) (.int _)⟩
theorem rc_min {i j : Int} : RC K (fun xs H Q => ∃ i j, xs = [.int i, .int j] ∧ Q (.int (if j < i then j else i)) H) [.int i, .int j] (Eq (.int (if j < i then j else i))) := fun M H vs h Q k => by
  cases h with
  | cons h l =>
    cases l with
    | cons h2 l =>
      cases l
      cases h
      cases h2
      exact ⟨i, j, rfl, k _ _ H rfl (Ex.refl H) (.int _)⟩
theorem rc_sum {ns : List Int} : RC K (rSum K) [.lst (ns.map .int)] (Eq (.int ns.sum)) := fun M H vs h Q k => by
  cases h with
  | cons h l =>
    cases l
    cases h with
    | lst hx nx lx =>
      have e := lx.ints
      subst e
      exact ⟨_, ns, rfl, SqL.of hx, k _ _ H rfl (Ex.refl H) (.int _)⟩
theorem rc_any {bs : List Bool} : RC K (rAny K) [.lst (bs.map .bl)] (Eq (.bl (bs.any id))) := fun M H vs h Q k => by
  cases h with
  | cons h l =>
    cases l
    cases h with
    | lst hx nx lx =>
      have e := lx.bls
      subst e
      exact ⟨_, bs, rfl, SqL.of hx, k _ _ H rfl (Ex.refl H) (.bl _)⟩
theorem rc_all {bs : List Bool} : RC K (rAll K) [.lst (bs.map .bl)] (Eq (.bl (bs.all id))) := fun M H vs h Q k => by
  cases h with
  | cons h l =>
    cases l
    cases h with
    | lst hx nx lx =>
      have e := lx.bls
      subst e
      exact ⟨_, bs, rfl, SqL.of hx, k _ _ H rfl (Ex.refl H) (.bl _)⟩
theorem rc_repr {i : Int} (h : i.natAbs.log2 < 1920) : RC K (fun xs H Q => ∃ i, xs = [.int i] ∧ i.natAbs.log2 < 1920 ∧ Q (.str (toString i)) H) [.int i] (Eq (.str (toString i))) := fun M H vs hv Q k => by
  cases hv with
  | cons hv l =>
    cases l
    cases hv
    exact ⟨i, rfl, h, k _ _ H rfl (Ex.refl H) (.str _)⟩
end
end Ly
end
section
set_option Elab.async false
set_option linter.all false
set_option maxRecDepth 100000
set_option maxHeartbeats 2000000
set_option autoImplicit false
namespace Ly
open PySem L2

/-! ### defs, methods, classes by their names -/
section
variable {P : Program} {w : World} {K : PySem.W.Frag} {mg : Str → Option Value} {base : Heap}
structure Cl (P : Program) (w : World) (K : PySem.W.Frag) (mg : Str → Option Value) (base : Heap) (k : Nat) (x : Str) (sp : Sp) : Prop where
  ex : ∃ (f : Addr) (fd : FuncData) (ps : List Str), FnOk P w K mg base CX0 k f fd ps sp ∧ mg x = some (.ref f) ∧ PySem.W.keepIn K (.ref f) = true ∧ Binds K fd ps []
structure Me (P : Program) (w : World) (K : PySem.W.Frag) (mg : Str → Option Value) (base : Heap) (k : Nat) (C : Addr) (m : Str) (sp : Sp) : Prop where
  ex : ∃ (f : Addr) (fd : FuncData) (ps : List Str), Cls K C ∧ Meth K C m f ∧ FnOk P w K mg base CX0 k f fd ps sp ∧ Binds K fd ps []
structure Ma (P : Program) (w : World) (K : PySem.W.Frag) (mg : Str → Option Value) (base : Heap) (k : Nat) (x : Str) (C : Addr) (sp : Sp) : Prop where
  ex : ∃ (f : Addr) (fd : FuncData) (ps : List Str), Mk K C f ∧ FnOk P w K mg base CX0 k f fd ps sp ∧ mg x = some (.ref C) ∧ Binds K fd ps []
/-- a def of the text as it stands behind the top -/
abbrev Df (K : PySem.W.Frag) (x qual : Str) (st : Stmt) (f : Addr) (fd : FuncData) : Prop := FunD K x qual (defArgs st) (defBody st) (defScope st) [] [] f fd
/-- how a def without defaults binds, by its parameters -/
def argsOf (st : Stmt) : Bool := match st with
  | .FunctionDef _ a _ _ _ _ _ _ _ _ => a.posonlyargs.isEmpty && (a.vararg.isNone && (a.kwonlyargs.isEmpty && (a.kw_defaults.isEmpty && (a.kwarg.isNone && a.defaults.isEmpty))))
  | _ => false
theorem cl_mk {x : Str} {st : Stmt} {f : Addr} {fd : FuncData} {ps : List Str} {k : Nat} {sp : Sp} (F : Df K x x st f fd) (g : mg x = some (.ref f)) (h : FnOk P w K mg base CX0 k f fd ps sp)
    (b : ∀ (kV doc pm : Value) (an : Option Addr) (cdv ct : Value) (us : List Value), us.length = ps.length → bindArgs (PySem.W.fnOf x x (defArgs st) (defBody st) (defScope st) .none kV doc pm an cdv ct) ⟨us, []⟩ = pure (ps.zip us)) : Cl P w K mg base k x sp :=
  ⟨f, fd, ps, h, g, F.kp, F.bindsN b⟩
theorem me_mk {x qual : Str} {C : Addr} {st : Stmt} {f : Addr} {fd : FuncData} {ps : List Str} {k : Nat} {sp : Sp} (F : Df K x qual st f fd) (c : Cls K C) (m : Meth K C x f) (h : FnOk P w K mg base CX0 k f fd ps sp)
    (b : ∀ (kV doc pm : Value) (an : Option Addr) (cdv ct : Value) (us : List Value), us.length = ps.length → bindArgs (PySem.W.fnOf x qual (defArgs st) (defBody st) (defScope st) .none kV doc pm an cdv ct) ⟨us, []⟩ = pure (ps.zip us)) : Me P w K mg base k C x sp :=
  ⟨f, fd, ps, c, m, h, F.bindsN b⟩
theorem ma_mk {x init qual : Str} {C : Addr} {st : Stmt} {f : Addr} {fd : FuncData} {ps : List Str} {k : Nat} {sp : Sp} (F : Df K init qual st f fd) (m : Mk K C f) (g : mg x = some (.ref C)) (h : FnOk P w K mg base CX0 k f fd ps sp)
    (b : ∀ (kV doc pm : Value) (an : Option Addr) (cdv ct : Value) (us : List Value), us.length = ps.length → bindArgs (PySem.W.fnOf init qual (defArgs st) (defBody st) (defScope st) .none kV doc pm an cdv ct) ⟨us, []⟩ = pure (ps.zip us)) : Ma P w K mg base k x C sp :=
  ⟨f, fd, ps, m, h, g, F.bindsN b⟩
end
section
variable {X : Cx} {k j : Nat} {C : Addr} {x m : Str} {sp : Sp} {p pos apos : Pos} {e o : Expr} {es : List Expr} {ta : TE} {t : TA}
theorem pe_cl (c : Cl X.prog X.w X.K X.mg X.base k x sp) (hr : Room j X.A) (hk : k ≤ j) (hg : Gl X x) (ha : PA X (e :: es) t)
    (hdb : (x == ("__debug__" : Str)) = false := by decide) (he : starEach (e :: es) X.env = (false, eval e X.env) :: starEach es X.env := by rfl) (hpl : (backTo pos (starEach es X.env)).any (·.1) = false := by rfl) :
    PE X (.Call (.Name x p) (e :: es) [] pos) (tCall sp [] E0 t) := by
  obtain ⟨f, fd, ps, F, g, kp, b⟩ := c.ex
  exact pe_call F (hr.mono hk) hg g kp b .nil pass0 ha hdb he hpl
theorem pe_cl0 (c : Cl X.prog X.w X.K X.mg X.base k x sp) (hr : Room j X.A) (hk : k ≤ j) (hg : Gl X x) (hdb : (x == ("__debug__" : Str)) = false := by decide) : PE X (.Call (.Name x p) [] [] pos) (tCall sp [] E0 tNil) := by
  obtain ⟨f, fd, ps, F, g, kp, b⟩ := c.ex
  exact pe_call0 F (hr.mono hk) hg g kp b .nil pass0 hdb
theorem pe_me {pl : Sem Bool} (c : Me X.prog X.w X.K X.mg X.base k C m sp) (hr : Room j X.A) (hk : k ≤ j) (ho : PE X o ta) (ha : PA X (e :: es) t)
    (hst : starEach (e :: es) X.env = (false, eval e X.env) :: starEach es X.env := by rfl) (hpl : (backTo pos (starEach es X.env)).any (·.1) = false := by rfl)
    (ht : eval (.Call (.Attribute o m apos) (e :: es) [] pos) X.env = (do
      let ov ← eval o X.env
      standAt apos.atName
      let (f, first) ← holding [ov] (getMethod ov m pl)
      callWith pos f first (backTo pos (starEach (e :: es) X.env)) (backToKw pos (keywordEach [] X.env))) := by rfl) :
    PE X (.Call (.Attribute o m apos) (e :: es) [] pos) (tMeth C m sp [] E0 ta t) := by
  obtain ⟨f, fd, ps, c1, c2, F, b⟩ := c.ex
  exact pe_meth (pl := pl) ho c1 c2 F (hr.mono hk) b .nil pass0 ha hst hpl ht
theorem pe_me0 {pl : Sem Bool} (c : Me X.prog X.w X.K X.mg X.base k C m sp) (hr : Room j X.A) (hk : k ≤ j) (ho : PE X o ta)
    (ht : eval (.Call (.Attribute o m apos) [] [] pos) X.env = (do
      let ov ← eval o X.env
      standAt apos.atName
      let (f, first) ← holding [ov] (getMethod ov m pl)
      callWith pos f first (backTo pos (starEach [] X.env)) (backToKw pos (keywordEach [] X.env))) := by rfl) :
    PE X (.Call (.Attribute o m apos) [] [] pos) (tMeth C m sp [] E0 ta tNil) := by
  obtain ⟨f, fd, ps, c1, c2, F, b⟩ := c.ex
  exact pe_meth0 (pl := pl) ho c1 c2 F (hr.mono hk) b .nil pass0 ht
theorem pe_ma (c : Ma X.prog X.w X.K X.mg X.base k x C sp) (hr : Room j X.A) (hk : k + 1 ≤ j) (hg : Gl X x) (ha : PA X (e :: es) t)
    (hdb : (x == ("__debug__" : Str)) = false := by decide) (he : starEach (e :: es) X.env = (false, eval e X.env) :: starEach es X.env := by rfl) (hpl : (backTo pos (starEach es X.env)).any (·.1) = false := by rfl) :
    PE X (.Call (.Name x p) (e :: es) [] pos) (tMake C sp [] E0 t) := by
  obtain ⟨f, fd, ps, M, F, g, b⟩ := c.ex
  exact pe_make M F (hr.mono hk) hg g b .nil pass0 ha hdb he hpl
end

section
variable {K : PySem.W.Frag} {Z : Zn} {H0 H1 : Hp} {L L' : Own} {Γ Γ' : Gam} {σ : L2.St} {H H' : Hp}
variable {W W' W1 W2 : Hp → Addr → Prop} {te ta tb : TE} {tt tu : TT} {P P1 P2 : Dt → Prop} {d e f : Dt} {D : Ends} {tz ts ts' : TS} {ds es : List Dt}
/-! ### instances -/
theorem IsF.look {M : Addr → Prop} {n : Str} : ∀ {fs : List (Str × Dt)} {vs : List (Str × V)}, IsF K M H fs vs → fs.lookup n = some d → ∃ v, vs.lookup n = some v ∧ Is K M H d v
  | _, _, .nil, h => by cases h
  | _, _, .cons (n := m) x l, h => by
    rw [List.lookup_cons] at h ⊢
    cases q : (n == m) with
    | true =>
      rw [q] at h
      have := Option.some.inj h
      subst this
      exact ⟨_, rfl, x⟩
    | false =>
      rw [q] at h
      exact IsF.look l h
theorem IsF.none {M : Addr → Prop} {n : Str} : ∀ {fs : List (Str × Dt)} {vs : List (Str × V)}, IsF K M H fs vs → fs.lookup n = none → vs.lookup n = none
  | _, _, .nil, _ => rfl
  | _, _, .cons (n := m) x l, h => by
    rw [List.lookup_cons] at h ⊢
    cases q : (n == m) with
    | true =>
      rw [q] at h
      cases h
    | false =>
      rw [q] at h
      exact IsF.none l h
theorem ev_fld [w : Wd K Z L W] {C : Addr} {n : Str} {fs : List (Str × Dt)} (c : Cls K C) (na : NoAttr K C n) (h : EV K Z H0 L Γ (wW Z) te (Eq (.ins C fs))) (hl : fs.lookup n = some d) [i : Imm d] : EV K Z H0 L Γ W (tFld K te n) (Eq d) := fun σ H a Q k =>
  h σ H a _ fun d' x H1 p1 g1 j1 i1 => by
    subst p1
    cases i1 with
    | ins e l =>
      obtain ⟨v, e1, e2⟩ := l.look hl
      exact ⟨_, _, _, _, v, rfl, e, c, na, e1, k _ v H1 rfl g1 j1 (i.any _ _ _ _ _ e2)⟩
theorem ev_meth [w : Wd K Z L W] {α : Type} {args : α → List Dt} {pre : α → Prop} {post : α → Dt → Prop} {E : XK} {t : TA} {C : Addr} {m : Str} {fs : List (Str × Dt)} (x : α) (h1 : EV K Z H0 L Γ (wW Z) te (Eq (.ins C fs))) (h : EVA K Z H0 L Γ (wW Z) t (Eq ds))
    (ha : args x = .ins C fs :: ds) (hp : pre x) (hm : fs.lookup m = none) : EV K Z H0 L Γ W (tMeth C m (spP K args pre post) [] E te t) (post x) := fun σ H a Q k =>
  h1 σ H a _ fun d v H1 p1 g1 j1 i1 => by
    subst p1
    cases i1 with
    | ins e l =>
      rename_i b dx vs
      refine ⟨b, dx, vs, rfl, e, l.none hm, h σ H1 (a.step g1 j1) _ fun ds' us H2 p2 g2 j2 i2 => ?_⟩
      subst p2
      show spP K args pre post (.ref b :: (us ++ [])) H2 Q E
      rw [List.append_nil]
      refine ⟨x, hp, ?_, fun d v H2 p e i => fin_ex a (g1.trans g2) j2 e i p k⟩
      rw [ha]
      exact ((IsL.cons ((Is.ins e l).mono g2) i2).weak fun _ q => q.elim)
/-- what __init__ promises: the attributes of the new instance -/
def spI (K : PySem.W.Frag) (C : Addr) {α : Type} (args : α → List Dt) (pre : α → Prop) (fs : α → List (Str × Dt)) : Sp := fun vs H Q _ =>
  ∃ (a : α) (x dx : Addr) (ws : List V), vs = .ref x :: ws ∧ H x = some (.ins C dx []) ∧ pre a ∧ (∃ Hb : Hp, Hb x = none ∧ Ex Hb H ∧ IsL K (fun _ => False) Hb (args a) ws) ∧
    ∀ H' gs, (∀ b o, b ≠ x → H b = some o → H' b = some o) → H' x = some (.ins C dx gs) → IsF K (fun b => H b ≠ none) H' (fs a) gs → Q .non H'
theorem spI_len {C : Addr} {α : Type} {args : α → List Dt} {pre : α → Prop} {fs : α → List (Str × Dt)} {n : Nat} {vs : List V} {H : Hp} {Q : VK} {E : XK} (h : spI K C args pre fs vs H Q E) (hn : ∀ a, (args a).length = n) : vs.length = n + 1 := by
  obtain ⟨a, x, dx, ws, rfl, _, _, ⟨Hb, _, _, i⟩, _⟩ := h
  rw [List.length_cons, ← i.length, hn]
mutual
theorem Is.plus {M : Addr → Prop} {x : Addr} (z : H x = none) : ∀ {d : Dt} {v : V}, Is K M H d v → Is K (fun b => b = x) H d v
  | _, _, .non => .non
  | _, _, .bl b => .bl b
  | _, _, .int i => .int i
  | _, _, .str x => .str x
  | _, _, .ty n => .ty n
  | _, _, .tup h l => .tup h (IsL.plus z l)
  | _, _, .lst h n l => .lst h (fun m => by rw [m, z] at h; cases h) (IsL.plus z l)
  | _, _, .ins h l => .ins h (IsF.plus z l)
  | _, _, .dct h n l => .dct h (fun m => by rw [m, z] at h; cases h) (IsK.plus z l)
  | _, _, .raw v => .raw v
theorem IsL.plus {M : Addr → Prop} {x : Addr} (z : H x = none) : ∀ {ds : List Dt} {vs : List V}, IsL K M H ds vs → IsL K (fun b => b = x) H ds vs
  | _, _, .nil => .nil
  | _, _, .cons h l => .cons (Is.plus z h) (IsL.plus z l)
theorem IsF.plus {M : Addr → Prop} {x : Addr} (z : H x = none) : ∀ {ds : List (Str × Dt)} {vs : List (Str × V)}, IsF K M H ds vs → IsF K (fun b => b = x) H ds vs
  | _, _, .nil => .nil
  | _, _, .cons h l => .cons (Is.plus z h) (IsF.plus z l)
theorem IsK.plus {M : Addr → Prop} {x : Addr} (z : H x = none) : ∀ {ds : List (Key × Dt)} {vs : List (Key × V)}, IsK K M H ds vs → IsK K (fun b => b = x) H ds vs
  | _, _, .nil => .nil
  | _, _, .cons h l => .cons (Is.plus z h) (IsK.plus z l)
end
theorem IsF.weak {M M' : Addr → Prop} (z : ∀ b, M' b → M b) {d : List (Str × Dt)} {v : List (Str × V)} (h : IsF K M H d v) : IsF K M' H d v := h.zone fun b _ _ m _ => z b m
theorem ev_make [w : Wd K Z L W] {α : Type} {args : α → List Dt} {pre : α → Prop} {fs : α → List (Str × Dt)} {E : XK} {t : TA} {C : Addr} (x : α) (h : EVA K Z H0 L Γ (wW Z) t (Eq (args x))) (hp : pre x) :
    EV K Z H0 L Γ W (tMake C (spI K C args pre fs) [] E t) (Eq (.ins C (fs x))) := fun σ H a Q k =>
  h σ H a _ fun ds us H1 p1 g1 j1 i1 y dy ny nd ne => by
    subst p1
    show spI K C args pre fs (.ref y :: (us ++ [])) _ _ E
    rw [List.append_nil]
    have e0 : Ex H1 (upd (upd H1 dy (.own y)) y (.ins C dy [])) := fun b o e => by
      rw [upd_ne (ne_of_none e ny), upd_ne (ne_of_none e nd)]
      exact e
    refine ⟨x, y, dy, us, rfl, upd_same, hp, ⟨H1, ny, e0, i1.weak fun _ q => q.elim⟩, fun H' gs f1 f2 f3 => ⟨rfl, ?_⟩⟩
    have e1 : Ex H1 H' := fun b o e => f1 b o (fun q => by rw [q, ny] at e; cases e) (e0 b o e)
    refine fin_ex (P := Eq (.ins C (fs x))) a g1 j1 e1 (.ins f2 (f3.weak fun b m => ?_)) rfl k
    cases q : H1 b with
    | none => exact absurd q m
    | some o =>
      rw [e0 b o q]
      exact fun q => nomatch q

/-! ### isinstance -/
/-- the built-in class of plain data -/
def Dt.cls : Dt → Option String
  | .non => some "NoneType"
  | .bl _ => some "bool"
  | .int _ => some "int"
  | .str _ => some "str"
  | .tup _ => some "tuple"
  | .lst _ => some "list"
  | .dct _ => some "dict"
  | _ => none
theorem Is.tyx {M : Addr → Prop} {c : String} {v : V} (h : Is K M H d v) (hc : d.cls = some c) : TyX K H v (.type c) := by
  cases h with
  | non => cases hc; exact .base .non
  | bl b => cases hc; exact .base (.bl b)
  | int i => cases hc; exact .base (.int i)
  | str x => cases hc; exact .base (.str x)
  | ty n => cases hc
  | tup h l =>
    cases hc
    rcases h with (h | ⟨o, h⟩) | ⟨o, its, n, h1, h2, _⟩
    · exact .base (.tup h)
    · exact .fTuple h
    · exact .kTuple h1 h2
  | lst h n l => cases hc; exact .base (.lst h)
  | ins h l => cases hc
  | dct h n l => cases hc; exact .base (.dK h)
  | raw v => cases hc
theorem rc_isi {c T : String} {b : Bool} (hc : d.cls = some c) (hb : kitB c T = some b) : RC K (rIsi K) [d, .ty T] (Eq (.bl b)) := fun M H vs h Q k => by
  cases h with
  | cons h l =>
    cases l with
    | cons h2 l =>
      cases l
      cases h2
      exact ⟨_, _, _, _, b, rfl, .ty T, h.tyx hc, kit_ty hb, k _ _ H rfl (Ex.refl H) (.bl _)⟩
end
end Ly
end
section
set_option Elab.async false
set_option linter.all false
set_option maxRecDepth 100000
set_option maxHeartbeats 2000000
set_option autoImplicit false
namespace Ly
open PySem L2
section
variable {K : PySem.W.Frag} {Z : Zn} {H0 H1 : Hp} {L L' : Own} {Γ Γ' : Gam} {σ : L2.St} {H H' : Hp}
variable {W W' W1 W2 : Hp → Addr → Prop} {te ta tb : TE} {tt tu : TT} {P P1 P2 : Dt → Prop} {d e f : Dt} {D : Ends} {tz ts ts' : TS} {ds es : List Dt}
/-- * : ints; a tuple so many times -/
def rMulU (K : PySem.W.Frag) : R2 := fun x y H Q => rI CMulW (fun i j => .int (i * j)) x y H Q ∨ rRepT K x y H Q
theorem op_mulU {X : Cx} : OpR X (binaryOp .Mult) (rMulU X.K) := op_mulW.or op_repT
theorem rr_mulI {i j : Int} (h : CMulW i j) : RR K (rMulU K) (.int i) (.int j) (Eq (.int (i * j))) := RR.l (rr_I h fun _ _ => .int _)
/-- small factors -/
theorem small_mul {i j : Int} (h1 : i.natAbs < 2 ^ 64) (h2 : j.natAbs < 2 ^ 64) : CMulW i j := wide_mul (a := 64) (b := 64) h1 h2 (by decide) (by decide) (by decide)
/-! ### the beginning and the end of a def -/
theorem at_start {vs : List V} (h : IsL K (fun _ => False) H ds vs) (N : List Str) (hl : ds.length ≤ N.length) : At K z0 H [] (ds.map some ++ List.replicate (N.length - ds.length) none) (L2.start N vs) H := by
  refine ⟨Gm.refl H, trivial, (fun _ q => nomatch q), List.nodup_nil, ?_, fun i d e => ?_⟩
  · unfold L2.start
    rw [List.length_append, List.length_append, List.length_map, List.length_map, List.length_replicate, List.length_replicate, h.length]
  · by_cases hi : i < ds.length
    · rw [List.getElem?_append_left (by rw [List.length_map]; exact hi), List.getElem?_map] at e
      cases q : ds[i]? with
      | none =>
        rw [q] at e
        cases e
      | some d' =>
        rw [q] at e
        have := Option.some.inj (Option.some.inj e)
        subst this
        obtain ⟨v, e1, e2⟩ := h.get q
        refine ⟨v, ?_, e2.weak fun b m => m.elim id fun q => nomatch q⟩
        unfold L2.start
        rw [List.getElem?_append_left (by rw [List.length_map, ← h.length]; exact hi), List.getElem?_map, e1]
        rfl
    · rw [List.getElem?_append_right (by rw [List.length_map]; omega), List.getElem?_replicate] at e
      split at e <;> cases e
theorem at_beg {vs : List V} {N : List Str} (h : IsL K (fun _ => False) H ds vs) (hG : ds.map some ++ List.replicate (N.length - ds.length) none = Γ) (hl : Nat.ble ds.length N.length = true) : At K z0 H [] Γ (L2.start N vs) H := hG ▸ at_start h N (Nat.le_of_ble_eq_true hl)
/-- self.f = v within __init__ -/
theorem q_setI {x dx C : Addr} {gs : List (Str × V)} {n : Str} {tv : TE} (a : At K z0 H0 [] Γ σ H) (hx : H x = some (.ins C dx gs)) (h0 : Γ[0]? = some (some (.raw (.ref x)))) (c : Cls K C) (na : NoAttr K C n) (hl : Nat.ble gs.length 900 = true) (h : EV K z0 H0 [] Γ wF tv P)
    (k : ∀ d v H1, P d → Ex H H1 → Is K (fun b => H b ≠ none) H1 d v → tz D σ (upd H1 x (.ins C dx (putF n v gs)))) : tSeq (sFld K (tVar 0) tv n) tz D σ H :=
  h σ H a _ fun d v H1 p g j i => by
    have e : Ex H H1 := fun b o q => g b o q fun m => m.elim
    obtain ⟨w, e1, e2⟩ := a.env 0 _ h0
    cases e2
    exact ⟨_, e1, x, C, dx, gs, rfl, e x _ hx, c, na, Nat.lt_of_le_of_lt (Nat.le_of_ble_eq_true hl) (by decide), k d v H1 p e i⟩
/-- what a promise's end asks -/
def Kp (K : PySem.W.Frag) (H0 : Hp) (P : Dt → Prop) (Q : VK) : Prop := ∀ d v H', P d → Ex H0 H' → Is K (fun b => H0 b ≠ none) H' d v → Q v H'
theorem At.ex0 (a : At K z0 H0 L Γ σ H) (fr : ∀ p ∈ L, H0 p.1 = none) : Ex H0 H := fun b o e => a.go b o e fun m => m.elim (fun q => q.elim) fun q => by
  obtain ⟨p, hp, rfl⟩ := List.mem_map.mp q
  rw [fr p hp] at e
  cases e
theorem q_ret (a : At K z0 H0 L Γ σ H) (fr : ∀ p ∈ L, H0 p.1 = none) (h : EV K z0 H0 L Γ wF te P) (k : Kp K H0 P D.rt) : tSeq (tRet te) tz D σ H :=
  h σ H a _ fun d v H' p g j x => by
    have e0 := a.ex0 fr
    refine k d v H' p (fun b o e => g b o (e0 b o e) fun q => q.elim) (x.weak fun b m => ?_)
    cases q : H0 b with
    | none => exact absurd q m
    | some o =>
      show H b ≠ none
      rw [e0 b o q]
      exact fun q => nomatch q
theorem q_ret1 (a : At K z0 H0 [] Γ σ H) (h : EV K z0 H0 [] Γ wF te P) (k : Kp K H0 P D.rt) : tSeq (tRet te) tz D σ H := q_ret a (fun _ q => nomatch q) h k
/-- .. by a list of one's own -/
theorem q_retOwn {i : Nat} {l : Addr} (a : At K z0 H0 L Γ σ H) (fr : ∀ p ∈ L, H0 p.1 = none) (h : Γ[i]? = some (some (.raw (.ref l)))) (hl : (l, ds) ∈ L) [m : ImmL ds] (k : Kp K H0 (Eq (.lst ds)) D.rt) : tSeq (tRet (tVar i)) tz D σ H := by
  obtain ⟨v, e1, e2⟩ := a.env i _ h
  cases e2
  obtain ⟨xs, h1, h2, h3⟩ := a.own _ hl
  exact ⟨_, e1, k _ _ _ rfl (a.ex0 fr) (.lst h1 (fun q => q (fr _ hl)) (m.any _ _ _ _ _ h2))⟩
theorem q_retN (a : At K z0 H0 L Γ σ H) (fr : ∀ p ∈ L, H0 p.1 = none) (k : Kp K H0 (Eq .non) D.rt) : tSeq tRetN tz D σ H := k _ _ _ rfl (a.ex0 fr) .non
theorem Kp.to {Q : VK} (k : Kp K H0 P Q) (h : ∀ d, P1 d → P d) : Kp K H0 P1 Q := fun d v H' p => k d v H' (h d p)
end
end Ly
end
section
set_option Elab.async false
set_option linter.all false
set_option maxRecDepth 100000
set_option maxHeartbeats 2000000
set_option autoImplicit false
namespace Ly
open PySem L2
/-! ### the rules with the written part named -/
section
variable {X : Cx} {K : PySem.W.Frag} {e o l a b i : Expr} {es : List Expr} {te ta tb tl to : TE} {t : TA} {pos apos cpos p : Pos} {f x : Str}
theorem x_add (h : X.K = K := by rfl) : OpR X (binaryOp .Add) (rAddU K) := h ▸ op_addU
theorem x_mul (h : X.K = K := by rfl) : OpR X (binaryOp .Mult) (rMulU K) := h ▸ op_mulU
theorem x_eq (hu : X.A.units + 64 < cLine) (h : X.K = K := by rfl) : OpR X (compareOp .Eq) (rEqU K) := h ▸ op_eqU hu
theorem x_ne (hu : X.A.units + 64 < cLine) (h : X.K = K := by rfl) : OpR X (compareOp .NotEq) (rNeU K) := h ▸ op_neU hu
theorem x_ix (h : X.K = K := by rfl) : IxR X (rIx K) := h ▸ ix_seq
theorem x_sl (h : X.K = K := by rfl) : SlR X (rSlU K) := h ▸ sl_U
theorem x_fld (he : PE X e te) (h : X.K = K := by rfl) (hb : attributeBase e f X.env (eval e X.env) = eval e X.env := by rfl) : PE X (.Attribute e f pos) (tFld K te f) := h ▸ pe_fld he hb
theorem x_rev {k : Nat} {p1 p2 p3 : Pos} (he : PE X e te) (h : X.K = K := by rfl) : PE X (.Subscript e (.Slice none none (some (.UnaryOp .USub (.Constant (.int 1) k p1) p2)) p3) pos) (tRevL K te) := h ▸ pe_revL he
theorem x_sq {tg iter : Expr} (he : PE X iter te) (h : X.K = K := by rfl) : PI X tg iter (iSq K te) := h ▸ pi_sq (pi_list he) (pi_tup he)
theorem x_tup {gs : TGs} {n k : Nat} (hc : X.calm = true) (hg : PGs X es gs) (h : X.K = K := by rfl)
    (hn : (assignEach es X.env).length = n := by rfl) (hst : (assignEach es X.env).findIdx? (·.1) = none := by rfl) : PG X (.Tuple es k pos) (gTup K n gs) := h ▸ pg_tup hc hg hn hst
theorem x_sets (ho : PE X o to) (hv : PE X e te) (hs : swapsWith e (some (.Attribute o f apos)) pos.line X.env = pure false := by rfl) (h : X.K = K := by rfl) : PS X (.Assign [.Attribute o f apos] e pos) (sFld K to te f) := h ▸ ps_fld ho hv hs
def rLenU (K : PySem.W.Frag) : List V → Hp → VK → Prop := fun xs H Q => ∃ x n, xs = [x] ∧ LenV K x H n ∧ Q (.int n) H
def rTupU (K : PySem.W.Frag) : List V → Hp → VK → Prop := fun xs H Q => ∃ p ys, xs = [.ref p] ∧ ((SqL K H p ys ∧ ∀ l, H l = none → Q (.ref l) (upd H l (.tup ys))) ∨ (SqT K H p ys ∧ Q (.ref p) H))
def rLstU (K : PySem.W.Frag) : List V → Hp → VK → Prop := fun xs H Q => ∃ p ys, xs = [.ref p] ∧ (SqL K H p ys ∨ SqT K H p ys) ∧ ∀ l, H l = none → Q (.ref l) (upd H l (.lst ys))
def rAbs : List V → Hp → VK → Prop := fun xs H Q => ∃ i, xs = [.int i] ∧ Q (.int (if i < 0 then -i else i)) H
def rMax2 : List V → Hp → VK → Prop := fun xs H Q => ∃ i j, xs = [.int i, .int j] ∧ Q (.int (if j > i then j else i)) H
def rMin2 : List V → Hp → VK → Prop := fun xs H Q => ∃ i j, xs = [.int i, .int j] ∧ Q (.int (if j < i then j else i)) H
def rRepr : List V → Hp → VK → Prop := fun xs H Q => ∃ i, xs = [.int i] ∧ i.natAbs.log2 < 1920 ∧ Q (.str (toString i)) H
theorem x_len (h : X.K = K := by rfl) : CallR X (.builtin "len") (rLenU K) := h ▸ call_len
theorem x_tuple (h : X.K = K := by rfl) : CallR X (.type "tuple") (rTupU K) := h ▸ call_tuple_of
theorem x_list (h : X.K = K := by rfl) : CallR X (.type "list") (rLstU K) := h ▸ call_list_of
theorem x_int : CallR X (.type "int") rInt1 := call_int1
theorem x_abs : CallR X (.builtin "abs") rAbs := call_abs
theorem x_max (hc : X.calm = true := by rfl) : CallR X (.builtin "max") rMax2 := call_max2 hc
theorem x_min (hc : X.calm = true := by rfl) : CallR X (.builtin "min") rMin2 := call_min2 hc
theorem x_repr : CallR X (.builtin "repr") rRepr := SkE.call_repr_int
theorem x_sum (hc : X.calm = true := by rfl) (h : X.K = K := by rfl) : CallR X (.builtin "sum") (rSum K) := h ▸ cr_sum hc
theorem x_any (hc : X.calm = true := by rfl) (h : X.K = K := by rfl) : CallR X (.builtin "any") (rAny K) := h ▸ cr_any hc
theorem x_all (hc : X.calm = true := by rfl) (h : X.K = K := by rfl) : CallR X (.builtin "all") (rAll K) := h ▸ cr_all hc
theorem x_isi (h : X.K = K := by rfl) : CallR X (.builtin "isinstance") (rIsi K) := h ▸ call_isi
theorem x_isiT (h : X.K = K := by rfl) : CallR X (.builtin "isinstance") (rIsiT K) := h ▸ call_isiT
theorem x_star {sp : Pos} (he : PE X e te) (hr : PA X es t) (h : X.K = K := by rfl) (hs : starEach (.Starred e sp :: es) X.env = (true, eval e X.env) :: starEach es X.env := by rfl) : PA X (.Starred e sp :: es) (StX.tStar K te t) := h ▸ StX.pa_star he hr hs
theorem x_bm0 {name : Str} {T id : String} {r : V → List V → Hp → VK → Prop} (pa : PlainAttrs T) (slot : Slot T name id) (hty : typeOf (.builtin id) = pure (.type "method_descriptor")) (hm : MtR X id r) (ho : PE X o to) (h : X.K = K := by rfl)
    (hbase : attributeBase o name X.env (eval o X.env) = eval o X.env := by rfl) (hline : (apos.endLine == cpos.line) = true := by rfl) : PE X (.Call (.Attribute o name apos) [] [] cpos) (tBM0 K T r to) := h ▸ pe_bm0 pa slot hty hm ho hbase hline
theorem x_bm {name : Str} {T id : String} {r : V → List V → Hp → VK → Prop} (pa : PlainAttrs T) (slot : Slot T name id) (hty : typeOf (.builtin id) = pure (.type "method_descriptor")) (hm : MtR X id r) (ho : PE X o to) (ha : PA X (e :: es) t) (h : X.K = K := by rfl)
    (hbase : attributeBase o name X.env (eval o X.env) = eval o X.env := by rfl)
    (hfew : ((backTo cpos (starEach (e :: es) X.env)).all (fun x => !x.1) && (backToKw cpos (keywordEach [] X.env)).all (fun x => x.1.isSome)
      && decide ((e :: es).length + ([] : List Keyword).length + (if ([] : List Keyword).isEmpty then 0 else 1) < 30)) = true := by rfl)
    (hline : (apos.endLine == cpos.line) = true := by rfl) (hs : starEach (e :: es) X.env = (false, eval e X.env) :: starEach es X.env := by rfl) (hplain : (backTo cpos (starEach es X.env)).any (·.1) = false := by rfl) :
    PE X (.Call (.Attribute o name apos) (e :: es) [] cpos) (tBM K T r to t) := h ▸ pe_bm pa slot hty hm ho ha hbase hfew hline hs hplain
end
end Ly
end
section
set_option Elab.async false
set_option linter.all false
set_option maxRecDepth 100000
set_option maxHeartbeats 2000000
set_option autoImplicit false
namespace Ly
open PySem L2 PySem.Spec PyProof.Rows
/-! ### a list or a tuple, told by a flag (true: a list) -/
def SqK (K : PySem.W.Frag) : Bool → Hp → Addr → List V → Prop
  | true, H, a, xs => SqL K H a xs
  | false, H, a, xs => SqT K H a xs
def IsS : Bool → Heap → Addr → Array Value → Prop
  | true, h, a, xs => h.IsList a xs
  | false, h, a, xs => h.IsTuple a xs
def ItS : Bool → Heap → Addr → Addr → Nat → Prop
  | true, h, it, a, i => h.IsListIter it a i
  | false, h, it, a, i => h.IsTupleIter it a i
def obS : Bool → Addr → Obj
  | true, a => { cls := .type "list_iterator", data := .fields #[.ref a, .int 0 0] }
  | false, a => { cls := .type "tuple_iterator", data := .fields #[.ref a, .int 0 0] }
section
variable {X : Cx} {pins : List (Addr × Obj)} {σ : L2.St} {H : Hp} {s : Shared} {a it : Addr} {xs ys : List V} {kd : Bool}
theorem inv_sq (I : Inv X pins σ H s) (h : SqK X.K kd H a xs) : ∃ its : List Value, Vals xs its ∧ IsS kd s.heap a its.toArray := by
  cases kd with
  | true =>
    obtain ⟨its, rv, p, _⟩ := I.list h
    exact ⟨its, rv, p.isList⟩
  | false =>
    obtain ⟨its, rv, p, _⟩ := I.tuple h
    exact ⟨its, rv, p⟩
theorem inv_sq_inj (I : Inv X pins σ H s) (h : SqK X.K kd H a xs) (h' : SqK X.K kd H a ys) : xs = ys := by
  cases kd with
  | true => exact I.list_inj h h'
  | false => exact I.tuple_inj h h'
theorem begins_s (kd : Bool) (a : Addr) (items : Array Value) : Begins (.ref a) (obS kd a) fun h => IsS kd h a items := by
  cases kd with
  | true => exact begins_list a items
  | false => exact begins_tuple a items
theorem draws_s {prog : Program} {w : World} {A : Around} (hh : A.handled = none) (kd : Bool) (it a : Addr) (hne : a ≠ it) (items : Array Value) :
    Draws prog w A it [it, a] items.size (fun i v => items[i]? = some v) (fun i h => ItS kd h it a i ∧ IsS kd h a items) := by
  cases kd with
  | true => exact .list hh it a hne items
  | false => exact .tuple hh it a hne items
theorem its_ob {h : Heap} {kd : Bool} {it a : Addr} {i : Nat} (x : ItS kd h it a i) : ∃ o fs, h.get? it = some o ∧ o.data = .fields fs := by
  cases kd with
  | true => obtain ⟨o, e, _, d⟩ := x; exact ⟨o, _, e, d⟩
  | false => obtain ⟨o, e, _, d⟩ := x; exact ⟨o, _, e, d⟩
theorem its_at {h h' : Heap} {kd : Bool} {it a : Addr} {i : Nat} (x : ItS kd h it a i) (k : ∀ o, h.get? it = some o → h'.get? it = some o) : ItS kd h' it a i := by
  cases kd with
  | true => exact Heap.IsListIter.at x k
  | false => exact Heap.IsTupleIter.at x k
theorem its_new {h : Heap} {kd : Bool} {it a : Addr} (e : h.get? it = some (obS kd a)) : ItS kd h it a 0 := by
  cases kd with
  | true => exact ⟨_, e, rfl, rfl⟩
  | false => exact ⟨_, e, rfl, rfl⟩
theorem iss_lt {h : Heap} {kd : Bool} {a : Addr} {xs : Array Value} (x : IsS kd h a xs) : a < h.objs.size := by
  cases kd with
  | true => obtain ⟨o, e, _⟩ := x; exact Heap.lt_size e
  | false => obtain ⟨o, e, _⟩ := x; exact Heap.lt_size e
end

/-! ### enumerate -/
/-- the thing at a (n items, which stay while it is walked), each item in a new pair -/
def Itu (K : PySem.W.Frag) (kd : Bool) (a : Addr) : It :=
  ⟨fun i H => ∃ (xs : List V) (x : V), SqK K kd H a xs ∧ xs[i]? = some x, fun i H v H' => ∃ T x, v = .ref T ∧ H T = none ∧ H' = upd H T (.tup [.int (i : Nat), x]) ∧ ∀ xs, SqK K kd H a xs → xs[i]? = some x,
    fun i H => ∃ xs : List V, SqK K kd H a xs ∧ xs.length = i⟩
theorem turn_enumU {P : Program} {w : World} {K : PySem.W.Frag} {elts : List Expr} {kk : Nat} {tpos : Pos} (kd : Bool) (a e it : Addr) (hae : a ≠ e) (hai : a ≠ it) :
    Turn P w K (.Tuple elts kk tpos) (Itu K kd a) [e, it] e (fun i h => (∃ old, IsEnum h e it ((i : Nat) : Int) old) ∧ ItS kd h it a i ∧ e ≠ it) where
  mem := by simp
  obj := fun i h st b hb => by
    obtain ⟨⟨old, he⟩, hi, _⟩ := st
    obtain ⟨o, fs, ho, hd⟩ := its_ob hi
    have e' : b = e ∨ b = it := by simpa using hb
    rcases e' with z | z
    · rw [z]; exact ⟨_, he, fun v q => nomatch q⟩
    · rw [z]; exact ⟨o, ho, fun v q => by rw [hd] at q; cases q⟩
  keep := fun i h h' st k => let ⟨⟨old, he⟩, hi, hne⟩ := st; ⟨⟨old, k e (by simp) _ he⟩, its_at hi fun o q => k it (by simp) o q, hne⟩
  item := by
    intro X hP hw hK hc i pins s σ H E I hf st hg
    subst hP hw hK
    obtain ⟨⟨old, he⟩, hit, hne⟩ := st
    obtain ⟨xs, x, hq, hx⟩ := hg
    obtain ⟨its, rv, p⟩ := inv_sq I hq
    obtain ⟨u, hu, ru⟩ := rv.get hx
    have hel : e < s.heap.objs.size := Heap.lt_size he
    have hil : it < s.heap.objs.size := by obtain ⟨_, _, q, _⟩ := its_ob hit; exact Heap.lt_size q
    have hlt : i < its.toArray.size := by
      have := (List.getElem?_eq_some_iff.mp hu).1
      simpa using this
    refine wpAny_pyNext_enum_itemD (draws_s (A := X.A.in1) (show X.A.in1.handled = none from I.ok.hd hc) kd it a hai its.toArray) he ⟨hit, p⟩ hlt hne (fun z => (List.mem_cons.mp z).elim hne fun z => hae (List.mem_singleton.mp z).symm) fun y h' tk hy ho hst hT hsz hk => ?_
    have ey : y = u := by
      have hu' : its.toArray[i]? = some u := by simpa using hu
      rw [hu'] at hy
      exact (Option.some.inj hy).symm
    subst ey
    refine ⟨_, rfl, wpAny_letOwnedTupleGo_enum (s := { s with heap := h', toks := tk + 1 }) ho fun h'' he' sb => ?_⟩
    have hT2 : h''.get? s.heap.objs.size = some { cls := .type "tuple", data := .seq #[.int i tk, y] } := (sb.2 _ (Nat.ne_of_gt hel)).trans hT
    have new : ObjOk X.prog X.w (upd H s.heap.objs.size (.tup [.int (i : Nat), x])) h'' s.heap.objs.size (.tup [.int (i : Nat), x]) :=
      ⟨by show 2 ≤ sizeLine; decide, [.int i tk, y], .cons ⟨_, rfl⟩ (.cons ru .nil), ⟨_, hT2, rfl, _, rfl⟩⟩
    have I1 : Inv X pins σ (upd H s.heap.objs.size (.tup [.int (i : Nat), x])) { s with heap := h'', toks := tk + 1 } :=
      I.turnedNew (ch := [e, it]) (fun b ob hb q => (sb.2 b (fun z => hb (by simp [z]))).trans (hk b ob (fun z => hb (by simp [z])) (fun z => hb (by simp [z])) q)) hf (Nat.le_refl _) new
    refine ⟨.ref s.heap.objs.size, _, I1, rfl, ⟨_, x, rfl, I.hok.fresh (Nat.le_refl _), rfl, fun ys hy' => by rw [inv_sq_inj I hy' hq]; exact hx⟩, ⟨⟨y, ?_⟩, its_at hst.1 fun o q => (sb.2 it (Ne.symm hne)).trans q, hne⟩, fun b hb => ?_⟩
    · have e1 : ((i + 1 : Nat) : Int) = (i : Int) + 1 := by omega
      rw [e1]; exact he'
    · have hb' : b < s.heap.objs.size := by
        have e' : b = e ∨ b = it := by simpa using hb
        rcases e' with z | z
        · rw [z]; exact hel
        · rw [z]; exact hil
      rw [upd_ne (Nat.ne_of_lt hb')]
      exact (hf b hb).1
  done := by
    intro X hP hw hK hc i pins s σ H E I hf st hg
    subst hP hw hK
    obtain ⟨⟨old, he⟩, hit, hne⟩ := st
    obtain ⟨xs, hq, hx⟩ := hg
    obtain ⟨its, rv, p⟩ := inv_sq I hq
    obtain ⟨f0, f1, f2, f3, f4, f5⟩ := hf it (by simp)
    have hl := rv.length
    have ei : i = its.toArray.size := by simp; omega
    subst ei
    exact wpAny_pyNext_enum_endD (draws_s (A := X.A.in1) (show X.A.in1.handled = none from I.ok.hd hc) kd it a hai its.toArray) he ⟨hit, p⟩ fun h' eb => ⟨rfl, I.turned (t' := s.toks) (fun b o hb q => eb b o hb q) f0 f1 f3 f4 f5⟩
  self := fun A i s Q E st h => let ⟨⟨_, he⟩, _⟩ := st; wpAny_pyIter_enum he h
theorem fits0 : Builtin.SmallTypes.fitsIndex 0 = true := by decide
theorem meets_enumerate_newU {v : Value} {o : Obj} {H : Heap → Prop} (B : Begins v o H) :
    Meets (Builtin.«enumerate.__new__» ⟨[.type "enumerate", v], []⟩) (fun _ R s => H s.heap ∧
      R (.ok (.ret (.ref (s.heap.push o).objs.size))) { s with heap := (s.heap.push o).push { cls := .type "enumerate", data := .fields #[.none, .bool false, .ref s.heap.objs.size, rawInt 0, .none, .none] } }) :=
  .of_wp fun prog w A R s h => by
    obtain ⟨hp, g, d, tk, os⟩ := s; obtain ⟨h1, h⟩ := h
    have hsub := sub_enumerate
    have q1 : ∀ {A' : Around} {E : Value → Shared → Prop} {Q : Value → Shared → Prop}, Q (.ref hp.objs.size) ⟨hp.push o, g, d, tk, os⟩ → wpAny (model prog w) A' (pyIter v) Q E ⟨hp, g, d, tk, os⟩ :=
      fun q => B.iter prog w _ _ ⟨hp, g, d, tk, os⟩ _ h1 q
    wp_walk using q1
    refine wpAny_stack_any fun st => wpAny_pure ?_
    split
    · rename_i c _ _ _ _ _
      cases (c == Value.type "enumerate")
      · wp_walk using q1
        exact ⟨_, rfl, h⟩
      · wp_walk using q1
        exact ⟨_, rfl, h⟩
    · wp_walk using q1
      exact ⟨_, rfl, h⟩
section
variable {prog : Program} {w : World} {A : Around} {E : Value → Shared → Prop} {s : Shared}
theorem enum_beginsU {v : Value} {o : Obj} {H : Heap → Prop} {Q : Value → Shared → Prop} (B : Begins v o H) (h1 : H s.heap)
    (h : ∀ h', IsEnum h' (s.heap.objs.size + 1) s.heap.objs.size 0 .none → h'.get? s.heap.objs.size = some o → (∀ b o, s.heap.get? b = some o → h'.get? b = some o) → Q (.ref (s.heap.objs.size + 1)) { s with heap := h' }) :
    wpAny (model prog w) A (call (.type "enumerate") [v]) Q E s := by
  refine callType_new F.called_enumerate (by decide) (F.typeCall_enumerate_1 _) (F.newCall_enumerate_1 _) (fun obj => F.args_object_init_2 obj _) F.entry_enumerate_new
    (meets_enumerate_newU B) ⟨h1, ?_⟩
  have hz : (s.heap.push o).objs.size = s.heap.objs.size + 1 := Heap.size_push ..
  show _ ∧ _
  rw [hz]
  have he : IsEnum ((s.heap.push o).push { cls := .type "enumerate", data := .fields #[.none, .bool false, .ref s.heap.objs.size, rawInt 0, .none, .none] }) (s.heap.objs.size + 1) s.heap.objs.size 0 .none := by
    have := Heap.get?_push_size (s.heap.push o) (o := { cls := .type "enumerate", data := .fields #[.none, .bool false, .ref s.heap.objs.size, rawInt 0, .none, .none] }) rfl
    rw [hz] at this; exact this
  exact ⟨⟨_, he, rfl⟩, h _ he (Heap.get?_push_of_some _ (Heap.get?_push_size _ B.free)) fun b o x => Heap.get?_push_of_some _ (Heap.get?_push_of_some _ x)⟩
end
def iEnumU (K : PySem.W.Frag) (ta : TA) : TI := fun σ H R => ta σ H fun vs H1 => ∃ a kd xs, vs = [.ref a] ∧ SqK K kd H1 a xs ∧ R (Itu K kd a) H1
theorem pi_enumU {X : Cx} {e : Expr} {ta : TA} {p pos tpos : Pos} {elts : List Expr} {kk : Nat} (hg : Gl X "enumerate") (hm : X.mg "enumerate" = none) (ha : PA X [e] ta) (hs : starEach [e] X.env = [(false, eval e X.env)] := by rfl) :
    PI X (.Tuple elts kk tpos) (.Call (.Name "enumerate" p) [e] [] pos) (iEnumU X.K ta) := by
  refine ⟨fun pins s σ H R I h => ?_⟩
  refine Call_ (ld_blt I hg hm boot_enumerate (PyProof.Rows.callWith_type1 (thn (ha.run pos pins s σ H _ I h) fun us s1 ⟨vs, H1, I1, r1, q1⟩ => ?_) hs rfl))
  obtain ⟨a, kd, xs, ex, hq, q⟩ := q1
  subst ex
  cases r1 with
  | cons r rr =>
    cases rr
    cases r
    obtain ⟨its, rv, p'⟩ := inv_sq I1 hq
    have al : a < s1.heap.objs.size := iss_lt p'
    refine enum_beginsU (begins_s kd a its.toArray) p' fun h' he hit hk => wpAny_pyIter_enum he ?_
    have I2 : Inv X pins σ H1 { s1 with heap := h' } := I1.kept (t' := s1.toks) hk
    refine ⟨s1.heap.objs.size + 1, [s1.heap.objs.size + 1, s1.heap.objs.size], _, _, H1, rfl, I2, turn_enumU kd a (s1.heap.objs.size + 1) s1.heap.objs.size (Nat.ne_of_lt (Nat.lt_succ_of_lt al)) (Nat.ne_of_lt al), ⟨⟨.none, he⟩, its_new hit, Nat.succ_ne_self _⟩, fun b hb => ?_, q⟩
    have e' : b = s1.heap.objs.size + 1 ∨ b = s1.heap.objs.size := by simpa using hb
    have hle : s1.heap.objs.size ≤ b := by
      rcases e' with z | z
      · rw [z]; exact Nat.le_add_right _ _
      · rw [z]; exact Nat.le_refl _
    exact I1.fpOk hle (I1.hok.fresh hle)
theorem sqk_of {K : PySem.W.Frag} {M : Addr → Prop} {H : Hp} {d : Dt} {ds : List Dt} {v : V} (s : IsSq d ds) (h : Is K M H d v) : ∃ a kd xs, v = .ref a ∧ SqK K kd H a xs ∧ IsL K M H ds xs ∧ ∀ H', Gm M H H' → SqK K kd H' a xs := by
  cases s with
  | lst =>
    cases h with
    | lst e n l => exact ⟨_, true, _, rfl, SqL.of e, l, fun H' g => SqL.of (g _ _ e fun m => absurd m n)⟩
  | tup =>
    cases h with
    | tup e l => exact ⟨_, false, _, rfl, e, l, fun H' g => sqt_gm g e⟩
theorem walk_enumU {K : PySem.W.Frag} {kd : Bool} {a : Addr} {xs : List V} : Walk (Itu K kd a) xs.length (fun H' => SqK K kd H' a xs) (fun i H v H' => ∃ T x, v = V.ref T ∧ H T = none ∧ H' = upd H T (.tup [.int (i : Nat), x]) ∧ xs[i]? = some x) where
  goes := fun i H hi g => ⟨xs, xs[i], g, List.getElem?_eq_getElem hi⟩
  stops := fun H g => ⟨xs, g, rfl⟩
  yields := fun i H x H' _ g y => by
    obtain ⟨T, u, e1, e2, e3, e4⟩ := y
    exact ⟨T, u, e1, e2, e3, e4 xs g⟩
/-- (0, first), (1, next) .. -/
def enumD (ds : List Dt) : List Dt := (List.range ds.length).map fun i => .tup [.int (i : Nat), ds.getD i .non]
theorem enumD_len (ds : List Dt) : (enumD ds).length = ds.length := by unfold enumD; rw [List.length_map, List.length_range]
theorem enumD_get {ds : List Dt} {i : Nat} {d : Dt} (h : ds[i]? = some d) : (enumD ds)[i]? = some (.tup [.int (i : Nat), d]) := by
  have hl : i < ds.length := (List.getElem?_eq_some_iff.mp h).1
  unfold enumD
  rw [List.getElem?_map, List.getElem?_range hl]
  show some (Dt.tup [.int (i : Nat), (ds[i]?).getD .non]) = _
  rw [h]
  rfl
section
variable {K : PySem.W.Frag} {Z : Zn} {H0 H1 : Hp} {L L' : Own} {Γ Γ' : Gam} {σ : L2.St} {H H' : Hp} {te ta tb : TE}
theorem it_enum {ta : TA} {N : Addr → Prop} {PL : List Dt → Prop} (h : EVA K Z H0 L Γ (fun _ => N) ta (fun l => ∃ d ds, l = [d] ∧ IsSq d ds ∧ PL ds)) : IT K Z H0 L Γ N (iEnumU K ta) (fun l => ∃ ds, PL ds ∧ l = enumD ds) := fun σ H a R k =>
  h σ H a _ fun ds vs H1 p g j x => by
    obtain ⟨d, ds, rfl, s, pl⟩ := p
    cases x with
    | cons x l =>
      cases l
      obtain ⟨b, kd, xs, rfl, e1, e2, e3⟩ := sqk_of s x
      have hl := e2.length
      refine ⟨b, kd, xs, rfl, e1, k (enumD ds) _ H1 (fun H' => SqK K kd H' b xs) _ ⟨ds, pl, rfl⟩ (by rw [enumD_len, hl]; exact walk_enumU) g j (fun H' g' => e3 H' g') fun i H' x H2 hi g' y => ?_⟩
      obtain ⟨T, u, e4, e5, e6, e7⟩ := y
      obtain ⟨d, hd, ix⟩ := e2.getV e7
      obtain ⟨ex, iq⟩ := pair_new (H1 := H1) (p := .int (i : Nat)) (Is.int _) (ix.mono g') ⟨T, e4, e5, e6⟩
      exact ⟨ex, _, enumD_get hd, iq⟩
end
end Ly
end
section
set_option Elab.async false
set_option linter.all false
set_option maxRecDepth 100000
set_option maxHeartbeats 2000000
set_option autoImplicit false
namespace Ly
open PySem L2 PySem.Spec PyProof.Rows
/-! ### zip of two, lists or tuples -/
def Itw (K : PySem.W.Frag) (ka kb : Bool) (a b : Addr) : It :=
  ⟨fun i H => ∃ (xs ys : List V) (x y : V), SqK K ka H a xs ∧ SqK K kb H b ys ∧ xs[i]? = some x ∧ ys[i]? = some y,
    fun i H v H' => ∃ T x y, v = .ref T ∧ H T = none ∧ H' = upd H T (.tup [x, y]) ∧ (∀ xs, SqK K ka H a xs → xs[i]? = some x) ∧ ∀ ys, SqK K kb H b ys → ys[i]? = some y,
    fun i H => ∃ xs ys : List V, SqK K ka H a xs ∧ SqK K kb H b ys ∧ i ≤ xs.length ∧ i ≤ ys.length ∧ (i = xs.length ∨ i = ys.length)⟩
section
variable {P : Program} {w : World} {K : PySem.W.Frag} {elts : List Expr} {kk : Nat} {tpos : Pos} {ka kb : Bool} {a b z TI TO i1 i2 : Addr}
theorem turn_zipU (S : ZipSep2 z TI TO i1 i2 [i1, a] [i2, b]) (h1a : a ≠ i1) (h2b : b ≠ i2) :
    Turn P w K (.Tuple elts kk tpos) (Itw K ka kb a b) [z, TI, TO, i1, i2] z (fun i h => IsZip h z TI TO .none ∧ IsTupOf2 h TI (.ref i1) (.ref i2) ∧ (∃ x y, IsTupOf2 h TO x y) ∧ ItS ka h i1 a i ∧ ItS kb h i2 b i) where
  mem := by simp
  obj := fun i h st c hc => by
    obtain ⟨hz, hTI, ⟨x, y, hTO⟩, j1, j2⟩ := st
    obtain ⟨o1, f1, e1, d1⟩ := its_ob j1
    obtain ⟨o2, f2, e2, d2⟩ := its_ob j2
    have e' : c = z ∨ c = TI ∨ c = TO ∨ c = i1 ∨ c = i2 := by simpa using hc
    rcases e' with q | q | q | q | q
    · rw [q]; exact ⟨_, hz, fun v q => nomatch q⟩
    · rw [q]; exact ⟨_, hTI, fun v q => nomatch q⟩
    · rw [q]; exact ⟨_, hTO, fun v q => nomatch q⟩
    · rw [q]; exact ⟨o1, e1, fun v q => by rw [d1] at q; cases q⟩
    · rw [q]; exact ⟨o2, e2, fun v q => by rw [d2] at q; cases q⟩
  keep := fun i h h' st k => by
    obtain ⟨hz, hTI, ⟨x, y, hTO⟩, h1, h2⟩ := st
    exact ⟨k z (by simp) _ hz, k TI (by simp) _ hTI, ⟨x, y, k TO (by simp) _ hTO⟩, its_at h1 fun o q => k i1 (by simp) o q, its_at h2 fun o q => k i2 (by simp) o q⟩
  item := by
    intro X hP hw hK hc i pins s σ H E I hf st hg
    subst hP hw hK
    obtain ⟨hz, hTI, ⟨x0, y0, hTO⟩, h1, h2⟩ := st
    obtain ⟨xs, ys, x, y, hqx, hqy, hx, hy⟩ := hg
    obtain ⟨its, rv, p⟩ := inv_sq I hqx
    obtain ⟨its2, rv2, p2⟩ := inv_sq I hqy
    obtain ⟨u, hu, ru⟩ := rv.get hx
    obtain ⟨u2, hu2, ru2⟩ := rv2.get hy
    have hzl : z < s.heap.objs.size := Heap.lt_size hz
    have hl1 : i < its.toArray.size := by simpa using (List.getElem?_eq_some_iff.mp hu).1
    have hl2 : i < its2.toArray.size := by simpa using (List.getElem?_eq_some_iff.mp hu2).1
    have hh : X.A.in1.handled = none := I.ok.hd hc
    refine wpAny_pyNext_zipD2_item S (draws_s hh ka i1 a h1a its.toArray) (draws_s hh kb i2 b h2b its2.toArray) hz hTI hTO ⟨h1, p⟩ ⟨h2, p2⟩ hl1 hl2 fun v1 v2 h' tk e1 e2 z' TO' j1 j2 hT hsz hk => ?_
    have ev1 : v1 = u := by
      have hu' : its.toArray[i]? = some u := by simpa using hu
      rw [hu'] at e1
      exact (Option.some.inj e1).symm
    have ev2 : v2 = u2 := by
      have hu' : its2.toArray[i]? = some u2 := by simpa using hu2
      rw [hu'] at e2
      exact (Option.some.inj e2).symm
    subst ev1 ev2
    refine ⟨_, rfl, wpAny_letOwnedTupleGo_zip (s := { s with heap := h', toks := tk }) z' fun h'' z'' sb => ?_⟩
    have hT2 : h''.get? s.heap.objs.size = some { cls := .type "tuple", data := .seq #[v1, v2] } := (sb.2 _ (Nat.ne_of_gt hzl)).trans hT
    have new : ObjOk X.prog X.w (upd H s.heap.objs.size (.tup [x, y])) h'' s.heap.objs.size (.tup [x, y]) :=
      ⟨by show 2 ≤ sizeLine; decide, [v1, v2], .cons ru (.cons ru2 .nil), ⟨_, hT2, rfl, _, rfl⟩⟩
    have I1 : Inv X pins σ (upd H s.heap.objs.size (.tup [x, y])) { s with heap := h'', toks := tk } :=
      I.turnedNew (ch := [z, TI, TO, i1, i2]) (fun c o hb q => (sb.2 c (fun q' => hb (by simp [q']))).trans (hk c o (fun q' => hb (by simp [q'])) (fun q' => hb (by simp [q'])) (fun q' => hb (by simp [q'])) (fun q' => hb (by simp [q'])) q)) hf (Nat.le_refl _) new
    refine ⟨.ref s.heap.objs.size, _, I1, rfl, ⟨_, x, y, rfl, I.hok.fresh (Nat.le_refl _), rfl, fun l hl => by rw [inv_sq_inj I hl hqx]; exact hx, fun l hl => by rw [inv_sq_inj I hl hqy]; exact hy⟩, ⟨z'', ?_, ⟨v1, v2, ?_⟩, ?_, ?_⟩, fun c hcm => ?_⟩
    · exact (sb.2 _ S.TIz).trans (hk _ _ S.TIz S.TITO S.TIi1 S.TIi2 hTI)
    · exact (sb.2 _ S.TOz).trans TO'
    · exact its_at j1.1 fun o q => (sb.2 _ S.zi1.symm).trans q
    · exact its_at j2.1 fun o q => (sb.2 _ S.zi2.symm).trans q
    · have hlt : c < s.heap.objs.size := by
        have e' : c = z ∨ c = TI ∨ c = TO ∨ c = i1 ∨ c = i2 := by simpa using hcm
        rcases e' with q | q | q | q | q
        · rw [q]; exact hzl
        · rw [q]; exact Heap.lt_size hTI
        · rw [q]; exact Heap.lt_size hTO
        · rw [q]; obtain ⟨_, _, e1, _⟩ := its_ob h1; exact Heap.lt_size e1
        · rw [q]; obtain ⟨_, _, e2, _⟩ := its_ob h2; exact Heap.lt_size e2
      rw [upd_ne (Nat.ne_of_lt hlt)]
      exact (hf c hcm).1
  done := by
    intro X hP hw hK hc i pins s σ H E I hf st hg
    subst hP hw hK
    obtain ⟨hz, hTI, ⟨x0, y0, hTO⟩, h1, h2⟩ := st
    obtain ⟨xs, ys, hqx, hqy, le1, le2, hend⟩ := hg
    obtain ⟨its, rv, p⟩ := inv_sq I hqx
    obtain ⟨its2, rv2, p2⟩ := inv_sq I hqy
    have l1 : its.toArray.size = xs.length := by simpa using rv.length.symm
    have l2 : its2.toArray.size = ys.length := by simpa using rv2.length.symm
    have hh : X.A.in1.handled = none := I.ok.hd hc
    exact wpAny_pyNext_zipD2_end S (draws_s hh ka i1 a h1a its.toArray) (draws_s hh kb i2 b h2b its2.toArray) hz hTI hTO ⟨h1, p⟩ ⟨h2, p2⟩ (by rw [l1]; exact le1) (by rw [l2]; exact le2) (by rw [l1, l2]; exact hend) fun h' tk hk => ⟨rfl, I.turnedL (t' := tk) (ch := [z, TI, TO, i1, i2]) (fun c o hb q =>
      hk c o (fun q' => hb (by simp [q'])) (fun q' => hb (by simp [q'])) (fun q' => hb (by simp [q'])) (fun q' => hb (by simp [q'])) q) hf⟩
  self := fun A i s Q E st h => wpAny_pyIter_zip st.1 h
end
theorem sep_new {N a b : Addr} (la : a < N) (lb : b < N) : ZipSep2 (N + 4) (N + 2) (N + 3) N (N + 1) [N, a] [N + 1, b] :=
  zip_sep2 (N := N) (fp1 := [a]) (fp2 := [b]) (fun c h => by rw [List.mem_singleton.mp h]; exact la) (fun c h => by rw [List.mem_singleton.mp h]; exact lb)
def iZipU (K : PySem.W.Frag) (ta : TA) : TI := fun σ H R => ta σ H fun vs H1 => ∃ a b ka kb xs ys, vs = [.ref a, .ref b] ∧ SqK K ka H1 a xs ∧ SqK K kb H1 b ys ∧ R (Itw K ka kb a b) H1
theorem pi_zipU {X : Cx} {e e2 : Expr} {ta : TA} {p pos tpos : Pos} {elts : List Expr} {kk : Nat} (hg : Gl X "zip") (hm : X.mg "zip" = none) (ha : PA X [e, e2] ta)
    (hs : starEach [e, e2] X.env = (false, eval e X.env) :: starEach [e2] X.env := by rfl) (hpl : (backTo pos (starEach [e2] X.env)).any (·.1) = false := by rfl) :
    PI X (.Tuple elts kk tpos) (.Call (.Name "zip" p) [e, e2] [] pos) (iZipU X.K ta) := by
  refine ⟨fun pins s σ H R I h => ?_⟩
  refine Call_ (ld_blt I hg hm PyProof.Rows.boot_zip (PyProof.Rows.callWith_type1 (thn (ha.run pos pins s σ H _ I h) fun us s1 ⟨vs, H1, I1, r1, q1⟩ => ?_) hs hpl))
  obtain ⟨a, b, ka, kb, xs, ys, ex, hqx, hqy, q⟩ := q1
  subst ex
  cases r1 with
  | cons r rr =>
    cases rr with
    | cons r' rr =>
      cases rr
      cases r
      cases r'
      obtain ⟨its, rv, p1⟩ := inv_sq I1 hqx
      obtain ⟨its2, rv2, p2⟩ := inv_sq I1 hqy
      have la : a < s1.heap.objs.size := iss_lt p1
      have lb : b < s1.heap.objs.size := iss_lt p2
      refine zip_begins2 (begins_s ka a its.toArray) (begins_s kb b its2.toArray) p1 p2 fun h' hz hTI hTO h1 h2 hsz hk => wpAny_pyIter_zip hz ?_
      have I2 : Inv X pins σ H1 { s1 with heap := h' } := I1.kept (t' := s1.toks) hk
      refine ⟨s1.heap.objs.size + 4, [s1.heap.objs.size + 4, s1.heap.objs.size + 2, s1.heap.objs.size + 3, s1.heap.objs.size, s1.heap.objs.size + 1], _, _, H1, rfl, I2, turn_zipU (sep_new la lb) (Nat.ne_of_lt la) (Nat.ne_of_lt (Nat.lt_succ_of_lt lb)), ⟨hz, hTI, ⟨_, _, hTO⟩, its_new h1, its_new h2⟩, fun c hcm => ?_, q⟩
      have e' : c = s1.heap.objs.size + 4 ∨ c = s1.heap.objs.size + 2 ∨ c = s1.heap.objs.size + 3 ∨ c = s1.heap.objs.size ∨ c = s1.heap.objs.size + 1 := by simpa using hcm
      have hle : s1.heap.objs.size ≤ c := by
        rcases e' with z | z | z | z | z
        · rw [z]; exact Nat.le_add_right _ _
        · rw [z]; exact Nat.le_add_right _ _
        · rw [z]; exact Nat.le_add_right _ _
        · rw [z]; exact Nat.le_refl _
        · rw [z]; exact Nat.le_add_right _ _
      exact I1.fpOk hle (I1.hok.fresh hle)
theorem walk_zipU {K : PySem.W.Frag} {ka kb : Bool} {a b : Addr} {xs ys : List V} : Walk (Itw K ka kb a b) (min xs.length ys.length) (fun H' => SqK K ka H' a xs ∧ SqK K kb H' b ys) (fun i H v H' => ∃ T x y, v = V.ref T ∧ H T = none ∧ H' = upd H T (.tup [x, y]) ∧ xs[i]? = some x ∧ ys[i]? = some y) where
  goes := fun i H hi g => ⟨xs, ys, xs[i]'(by omega), ys[i]'(by omega), g.1, g.2, List.getElem?_eq_getElem _, List.getElem?_eq_getElem _⟩
  stops := fun H g => ⟨xs, ys, g.1, g.2, by omega, by omega, by omega⟩
  yields := fun i H x H' _ g y => by
    obtain ⟨T, u, v, e1, e2, e3, e4, e5⟩ := y
    exact ⟨T, u, v, e1, e2, e3, e4 xs g.1, e5 ys g.2⟩
def zipD (ds es : List Dt) : List Dt := List.zipWith (fun d e => .tup [d, e]) ds es
theorem zipD_len (ds es : List Dt) : (zipD ds es).length = min ds.length es.length := List.length_zipWith
theorem zipD_get {ds es : List Dt} {i : Nat} {d e : Dt} (h1 : ds[i]? = some d) (h2 : es[i]? = some e) : (zipD ds es)[i]? = some (.tup [d, e]) := by
  unfold zipD
  rw [List.getElem?_zipWith, h1, h2]
section
variable {K : PySem.W.Frag} {Z : Zn} {H0 H1 : Hp} {L L' : Own} {Γ Γ' : Gam} {σ : L2.St} {H H' : Hp} {te ta tb : TE}
theorem it_zip {ta : TA} {N : Addr → Prop} {PL : List Dt → List Dt → Prop} (h : EVA K Z H0 L Γ (fun _ => N) ta (fun l => ∃ d e ds es, l = [d, e] ∧ IsSq d ds ∧ IsSq e es ∧ PL ds es)) : IT K Z H0 L Γ N (iZipU K ta) (fun l => ∃ ds es, PL ds es ∧ l = zipD ds es) := fun σ H a R k =>
  h σ H a _ fun ds vs H1 p g j x => by
    obtain ⟨d, e, ds, es, rfl, s1, s2, pl⟩ := p
    cases x with
    | cons x l =>
      cases l with
      | cons y l =>
        cases l
        obtain ⟨b, ka, xs, rfl, e1, e2, e3⟩ := sqk_of s1 x
        obtain ⟨c, kb, ys, rfl, f1, f2, f3⟩ := sqk_of s2 y
        have hl := e2.length
        have hl2 := f2.length
        refine ⟨b, c, ka, kb, xs, ys, rfl, e1, f1, k (zipD ds es) _ H1 (fun H' => SqK K ka H' b xs ∧ SqK K kb H' c ys) _ ⟨ds, es, pl, rfl⟩ (by rw [zipD_len, hl, hl2]; exact walk_zipU) g j (fun H' g' => ⟨e3 H' g', f3 H' g'⟩) fun i H' x H2 hi g' y => ?_⟩
        obtain ⟨T, u, v, e4, e5, e6, e7, e8⟩ := y
        obtain ⟨d, hd, ix⟩ := e2.getV e7
        obtain ⟨e, he, iy⟩ := f2.getV e8
        obtain ⟨ex, iq⟩ := pair_new (H1 := H1) (ix.mono g') (iy.mono g') ⟨T, e4, e5, e6⟩
        exact ⟨ex, _, zipD_get hd he, iq⟩
end
end Ly
end
section
set_option Elab.async false
set_option linter.all false
set_option maxRecDepth 100000
set_option maxHeartbeats 2000000
set_option autoImplicit false
namespace PySem
open PyProof.Rows
section
variable {M : Model} {A : Around} {E : Value → Shared → Prop} {s : Shared} {env : Env}
theorem callWith_typeK {pos : Pos} {T : String} {e : Expr} {rest : List Expr} {kws : List Keyword} {Q : Value → Shared → Prop}
    (h : wpAny M A (spliced (backTo pos (starEach (e :: rest) env))) (fun vs s₁ => wpAny M A (evalAll ((backToKw pos (keywordEach kws env)).map (·.2)))
      (fun kvs s₂ => wpAny M A (call (.type T) vs (((backToKw pos (keywordEach kws env)).filterMap (·.1)).zip kvs)) Q E s₂) E s₁) E s)
    (he : starEach (e :: rest) env = (false, eval e env) :: starEach rest env := by rfl)
    (hpl : (backTo pos (starEach (e :: rest) env)).any (·.1) = false := by rfl)
    (hall : (backToKw pos (keywordEach kws env)).all (·.1.isSome) = true := by rfl)
    (hkw : (backToKw pos (keywordEach kws env)).any (·.1.isNone) = false := by rfl) :
    wpAny M A (callWith pos (.type T) [] (backTo pos (starEach (e :: rest) env)) (backToKw pos (keywordEach kws env))) Q E s := by
  unfold callWith
  refine wpAny_bind (wpAny_holding (wpAny_mono (evalArgs_kw2 (Q := fun a s₁ => wpAny M A (call (.type T) a.pos a.kw) Q E s₁) (f := .type T) hall h he) (fun a s₁ h₁ => wpAny_bind (wpAny_standAt ?_)) fun _ _ x => x))
  simp only [hpl, hkw, Bool.or_false]
  refine wpAny_bind (wpAny_pure ?_)
  exact wpAny_bind (wpAny_mono h₁ (fun r s₂ hr => wpAny_bind (wpAny_holding (wpAny_point (wpAny_pure hr)))) fun _ _ x => x)
end
/-- a zip that asks for equal lengths -/
abbrev IsZipE (h : Heap) (z TI TO : Addr) (f0 : Value) : Prop :=
  h.get? z = some { cls := .type "zip", dict := none, data := .fields #[f0, .bool false, .bool true, .ref TI, .ref TO], slots := #[] }
section
variable {prog : Program} {w : World} {A : Around} {E : Value → Shared → Prop} {s : Shared} {z TI TO i1 i2 it : Addr} {fp fp1 fp2 : List Addr} {n n1 n2 i : Nat} {P P1 P2 : Nat → Value → Prop} {St St1 St2 : Nat → Heap → Prop} {a1 a2 : Value}
theorem nextEnd_item {Q : Option Value → Shared → Prop} (D : Draws prog w A it fp n P St) (hlt : i < n) (st : St i s.heap)
    (h : ∀ x h' tk, P i x → St (i + 1) h' → Heap.SameBut it s.heap h' → Q (some x) { s with heap := h', toks := tk }) : wpAny (model prog w) A (Builtin.SmallTypes.nextOrEnd (.ref it)) Q E s := by
  unfold Builtin.SmallTypes.nextOrEnd
  exact wpAny_bind (wpAny_attempt (D.item i s _ _ hlt st fun x h' tk p q k => wpAny_pure (h x h' tk p q k)))
theorem nextEnd_end {Q : Option Value → Shared → Prop} (D : Draws prog w A it fp n P St) (st : St n s.heap)
    (h : ∀ h', Heap.ExtBut it s.heap h' → Q none { s with heap := h' }) : wpAny (model prog w) A (Builtin.SmallTypes.nextOrEnd (.ref it)) Q E s := by
  unfold Builtin.SmallTypes.nextOrEnd
  refine wpAny_bind (wpAny_attempt (D.done s _ _ st fun h' e hx he => ?_))
  obtain ⟨o, ho, hc⟩ := he
  refine wpAny_bind (wpAny_isInstance (T := "StopIteration") (b := true) ⟨o, ho, hc⟩ isSubtype_stop ?_)
  exact wpAny_pure (h _ hx)
theorem zipE_item {Q : Value → Shared → Prop} (S : ZipSep2 z TI TO i1 i2 fp1 fp2) (D1 : Draws prog w A i1 fp1 n1 P1 St1) (D2 : Draws prog w A i2 fp2 n2 P2 St2)
    (hz : IsZipE s.heap z TI TO .none) (hTI : IsTupOf2 s.heap TI (.ref i1) (.ref i2)) (hTO : IsTupOf2 s.heap TO a1 a2) (st1 : St1 i s.heap) (st2 : St2 i s.heap) (hlt1 : i < n1) (hlt2 : i < n2)
    (hQ : ∀ x1 x2 h' tk, P1 i x1 → P2 i x2 → IsZipE h' z TI TO (rawInt s.heap.objs.size) → IsTupOf2 h' TO x1 x2 → St1 (i + 1) h' → St2 (i + 1) h' → IsTupOf2 h' s.heap.objs.size x1 x2 → h'.objs.size = s.heap.objs.size + 1 →
      (∀ c o, c ≠ z → c ≠ TO → c ≠ i1 → c ≠ i2 → s.heap.get? c = some o → h'.get? c = some o) → Q (.ref s.heap.objs.size) { s with heap := h', toks := tk }) :
    wpAny (model prog w) A (Builtin.«zip.__next__» ⟨[.ref z], []⟩) (fun fin s' => ∃ v, fin = .done (.ret v) ∧ Q v s') E s := by
  obtain ⟨hp, g, d, tk0, os⟩ := s
  show wpAny _ _ (field (.ref z) 2 >>= _) _ _ _
  refine wpAny_bind (wpAny_field hz rfl (x := .bool true) rfl ?_)
  show wpAny _ _ (field (.ref z) 3 >>= _) _ _ _
  refine wpAny_bind (wpAny_field hz rfl (x := .ref TI) rfl ?_)
  refine wpAny_bind (wpAny_seqItems hTI rfl ?_)
  show wpAny _ _ (Builtin.SmallTypes.ownedTupleIsFree (.ref z) >>= _) _ _ _
  refine wpAny_bind ?_
  unfold Builtin.SmallTypes.ownedTupleIsFree
  refine wpAny_bind (wpAny_field hz rfl (x := .none) rfl (wpAny_pure ?_))
  simp only [if_true]
  refine wpAny_bind (wpAny_rule ?_)
  refine wpAny_bind (wpAny_field hz rfl (x := .ref TO) rfl ?_)
  refine wpAny_bind (wpAny_setField_rec hz (by simp) fun g0 hz0 hs0 => ?_)
  replace hz0 : IsZipE g0 z TI TO .ellipsis := hz0
  replace hs0 : Heap.SameBut z hp g0 := hs0
  refine wpAny_bind ?_
  simp only [List.zipIdx_cons, List.zipIdx_nil, List.forIn_cons, List.forIn_nil]
  refine wpAny_bind (wpAny_bind (wpAny_onRaise ?_))
  show wpAny _ _ (Builtin.SmallTypes.nextOrEnd (.ref i1)) _ _ ⟨g0, g, d, tk0, os⟩
  refine nextEnd_item D1 hlt1 (D1.over st1 hs0 S.zf1) fun x1 p1 tk1 hx1 sn1 hp1 => ?_
  replace hp1 : Heap.SameBut i1 g0 p1 := hp1
  have hU1 : IsTupOf2 p1 TO a1 a2 := hp1.extBut _ _ S.Ti1 (hs0.extBut _ _ S.TOz hTO)
  refine wpAny_bind (wpAny_seqItems (s := ⟨p1, g, d, tk1, os⟩) hU1 rfl ?_)
  refine wpAny_bind (updateSeq_IsTupOf2 (s := ⟨p1, g, d, tk1, os⟩) hU1 fun g1 hT1 hs1 => ?_)
  replace hT1 : IsTupOf2 g1 TO x1 a2 := hT1
  replace hs1 : Heap.SameBut TO p1 g1 := hs1
  refine wpAny_bind (wpAny_letGo (wpAny_pure ?_))
  refine wpAny_bind (wpAny_bind (wpAny_onRaise ?_))
  show wpAny _ _ (Builtin.SmallTypes.nextOrEnd (.ref i2)) _ _ ⟨g1, g, d, tk1, os⟩
  refine nextEnd_item D2 hlt2 (D2.over (D2.over (D2.over st2 hs0 S.zf2) hp1 S.sep1_2) hs1 S.Tf2) fun x2 p2 tk2 hx2 sn2 hp2 => ?_
  replace hp2 : Heap.SameBut i2 g1 p2 := hp2
  have hU2 : IsTupOf2 p2 TO x1 a2 := hp2.extBut _ _ S.Ti2 hT1
  refine wpAny_bind (wpAny_seqItems (s := ⟨p2, g, d, tk2, os⟩) hU2 rfl ?_)
  refine wpAny_bind (updateSeq_IsTupOf2 (s := ⟨p2, g, d, tk2, os⟩) hU2 fun g2 hT2 hs2 => ?_)
  replace hT2 : IsTupOf2 g2 TO x1 x2 := hT2
  replace hs2 : Heap.SameBut TO p2 g2 := hs2
  refine wpAny_bind (wpAny_letGo (wpAny_pure (wpAny_pure ?_)))
  refine wpAny_bind (wpAny_seqItems (s := ⟨g2, g, d, tk2, os⟩) hT2 rfl ?_)
  refine wpAny_bind (wpAny_newTuple ?_)
  have hsz : g2.objs.size = hp.objs.size := by rw [hs2.1, hp2.1, hs1.1, hp1.1, hs0.1]
  have hzz : IsZipE g2 z TI TO .ellipsis := hs2.extBut _ _ S.TOz.symm (hp2.extBut _ _ S.zi2 (hs1.extBut _ _ S.TOz.symm (hp1.extBut _ _ S.zi1 hz0)))
  have hkk : ∀ c o, c ≠ z → c ≠ TO → c ≠ i1 → c ≠ i2 → hp.get? c = some o → g2.get? c = some o := fun c o cz cT c1 c2 e =>
    hs2.extBut _ _ cT (hp2.extBut _ _ c2 (hs1.extBut _ _ cT (hp1.extBut _ _ c1 (hs0.extBut _ _ cz e))))
  have hj1 : St1 (i + 1) g2 := D1.over (D1.over (D1.over sn1 hs1 S.Tf1) hp2 S.sep2_1) hs2 S.Tf1
  have hj2 : St2 (i + 1) g2 := D2.over sn2 hs2 S.Tf2
  have hzlt : z < g2.objs.size := Heap.lt_size hzz
  show wpAny _ _ (Builtin.SmallTypes.ownedTupleHandOut (.ref z) (.ref g2.objs.size) >>= _) _ _ ⟨g2.push { cls := .type "tuple", data := .seq #[x1, x2] }, g, d, tk2, os⟩
  refine wpAny_bind ?_
  unfold Builtin.SmallTypes.ownedTupleHandOut
  have hz6 : IsZipE (g2.push { cls := .type "tuple", data := .seq #[x1, x2] }) z TI TO .ellipsis := Heap.get?_push_of_some _ hzz
  refine wpAny_bind (wpAny_setField_rec hz6 (by simp) fun h7 hz7 hs7 => ?_)
  replace hz7 : IsZipE h7 z TI TO (rawInt g2.objs.size) := hz7
  refine wpAny_setField_rec hz7 (by simp) fun h8 hz8 hs8 => ?_
  replace hz8 : IsZipE h8 z TI TO (rawInt g2.objs.size) := hz8
  replace hs7 : Heap.SameBut z (g2.push { cls := .type "tuple", data := .seq #[x1, x2] }) h7 := hs7
  replace hs8 : Heap.SameBut z h7 h8 := hs8
  have up : ∀ c o, c ≠ z → g2.get? c = some o → h8.get? c = some o := fun c o c1 e => hs8.extBut _ _ c1 (hs7.extBut _ _ c1 (Heap.get?_push_of_some _ e))
  have hT8 : IsTupOf2 h8 g2.objs.size x1 x2 := hs8.extBut _ _ (Nat.ne_of_gt hzlt) (hs7.extBut _ _ (Nat.ne_of_gt hzlt) (Heap.get?_push_size _ rfl))
  have hn8 : h8.objs.size = g2.objs.size + 1 := by rw [hs8.1, hs7.1, Heap.size_push]
  rw [hsz] at hz8 hT8 hn8
  refine wpAny_pure ⟨_, rfl, ?_⟩
  show Q (.ref g2.objs.size) ⟨h8, g, d, tk2, os⟩
  rw [hsz]
  exact hQ x1 x2 h8 tk2 hx1 hx2 hz8 (up _ _ S.TOz hT2) (D1.frame _ _ _ hj1 fun b hb o e => up b o (fun q => S.zf1 (q ▸ hb)) e) (D2.frame _ _ _ hj2 fun b hb o e => up b o (fun q => S.zf2 (q ▸ hb)) e) hT8 hn8 fun c o cz cT c1 c2 e => up c o cz (hkk c o cz cT c1 c2 e)
theorem zipE_end {Q : Fin → Shared → Prop} (hh : A.handled = none) (S : ZipSep2 z TI TO i1 i2 fp1 fp2) (D1 : Draws prog w A i1 fp1 n P1 St1) (D2 : Draws prog w A i2 fp2 n P2 St2)
    (hz : IsZipE s.heap z TI TO .none) (hTI : IsTupOf2 s.heap TI (.ref i1) (.ref i2)) (st1 : St1 n s.heap) (st2 : St2 n s.heap) (hTO : IsTupOf2 s.heap TO a1 a2)
    (hE : ∀ h' tk e, (∀ c o, c ≠ z → c ≠ TO → c ≠ i1 → c ≠ i2 → s.heap.get? c = some o → h'.get? c = some o) → (∃ o, h'.get? e = some o ∧ o.cls = .type "StopIteration") → E (.ref e) { s with heap := h', toks := tk }) :
    wpAny (model prog w) A (Builtin.«zip.__next__» ⟨[.ref z], []⟩) Q E s := by
  obtain ⟨hp, g, d, tk0, os⟩ := s
  show wpAny _ _ (field (.ref z) 2 >>= _) _ _ _
  refine wpAny_bind (wpAny_field hz rfl (x := .bool true) rfl ?_)
  show wpAny _ _ (field (.ref z) 3 >>= _) _ _ _
  refine wpAny_bind (wpAny_field hz rfl (x := .ref TI) rfl ?_)
  refine wpAny_bind (wpAny_seqItems hTI rfl ?_)
  show wpAny _ _ (Builtin.SmallTypes.ownedTupleIsFree (.ref z) >>= _) _ _ _
  refine wpAny_bind ?_
  unfold Builtin.SmallTypes.ownedTupleIsFree
  refine wpAny_bind (wpAny_field hz rfl (x := .none) rfl (wpAny_pure ?_))
  simp only [if_true]
  refine wpAny_bind (wpAny_rule ?_)
  refine wpAny_bind (wpAny_field hz rfl (x := .ref TO) rfl ?_)
  refine wpAny_bind (wpAny_setField_rec hz (by simp) fun g0 hz0 hs0 => ?_)
  replace hz0 : IsZipE g0 z TI TO .ellipsis := hz0
  replace hs0 : Heap.SameBut z hp g0 := hs0
  refine wpAny_bind ?_
  simp only [List.zipIdx_cons, List.zipIdx_nil, List.forIn_cons, List.forIn_nil]
  refine wpAny_bind (wpAny_bind (wpAny_onRaise ?_))
  show wpAny _ _ (Builtin.SmallTypes.nextOrEnd (.ref i1)) _ _ ⟨g0, g, d, tk0, os⟩
  refine nextEnd_end D1 (D1.over st1 hs0 S.zf1) fun q hq => ?_
  replace hq : Heap.ExtBut i1 g0 q := hq
  have hzq : IsZipE q z TI TO .ellipsis := hq _ _ S.zi1 hz0
  refine wpAny_bind (wpAny_setField_rec (s := ⟨q, g, d, tk0, os⟩) hzq (by simp) fun q1 hz1 hs1 => ?_)
  replace hs1 : Heap.SameBut z q q1 := hs1
  have st2' : St2 n q1 := D2.frame _ _ _ (D2.over st2 hs0 S.zf2) fun b hb o e => hs1.extBut _ _ (fun x => S.zf2 (x ▸ hb)) (hq _ _ (fun x => S.sep1_2 (x ▸ hb)) e)
  refine wpAny_bind ?_
  refine wpAny_bind ?_
  simp only [List.drop_succ_cons, List.drop_zero, List.zipIdx_cons, List.zipIdx_nil, List.forIn_cons, List.forIn_nil]
  refine wpAny_bind (wpAny_bind ?_)
  refine nextEnd_end (s := ⟨q1, g, d, tk0, os⟩) D2 st2' fun q2 hq2 => ?_
  replace hq2 : Heap.ExtBut i2 q1 q2 := hq2
  simp only [Option.isSome_none, Bool.false_eq_true, if_false]
  refine wpAny_pure (wpAny_pure (wpAny_bind (wpAny_rule ?_)))
  unfold Builtin.SmallTypes.stopIteration
  refine wpAny_bind ?_
  simp only [newExc, newTuple]
  refine wpAny_bind (wpAny_newObj_type ?_ (by size_fits))
  refine wpAny_bind (m := firstArgMember _ _) (wpAny_of_eq (a := Value.none) (by first | rfl | (simp only [firstArgMember]; rfl)) ?_)
  refine wpAny_newObj_type ?_ (by size_fits)
  simp only [raiseNew]
  refine wpAny_bind (wpAny_handled ?_)
  first | rw [show A.in1.handled = none from hh] | rw [hh]
  refine wpAny_bind (wpAny_pure (wpAny_throw ?_))
  refine hE _ _ _ (fun c o cz cT c1 c2 x => ?_) ⟨_, Heap.get?_push_size _ rfl, rfl⟩
  exact Heap.get?_push_of_some _ (Heap.get?_push_of_some _ (hq2 _ _ c2 (hs1.extBut _ _ cz (hq _ _ c1 (hs0.extBut _ _ cz x)))))
theorem pyNext_zipE_item {Q : Option Value → Shared → Prop} (S : ZipSep2 z TI TO i1 i2 fp1 fp2) (D1 : Draws prog w A.in1 i1 fp1 n1 P1 St1) (D2 : Draws prog w A.in1 i2 fp2 n2 P2 St2)
    (hz : IsZipE s.heap z TI TO .none) (hTI : IsTupOf2 s.heap TI (.ref i1) (.ref i2)) (hTO : IsTupOf2 s.heap TO a1 a2) (st1 : St1 i s.heap) (st2 : St2 i s.heap) (hlt1 : i < n1) (hlt2 : i < n2)
    (hQ : ∀ x1 x2 h' tk, P1 i x1 → P2 i x2 → IsZipE h' z TI TO (rawInt s.heap.objs.size) → IsTupOf2 h' TO x1 x2 → St1 (i + 1) h' → St2 (i + 1) h' → IsTupOf2 h' s.heap.objs.size x1 x2 → h'.objs.size = s.heap.objs.size + 1 →
      (∀ c o, c ≠ z → c ≠ TO → c ≠ i1 → c ≠ i2 → s.heap.get? c = some o → h'.get? c = some o) → Q (some (.ref s.heap.objs.size)) { s with heap := h', toks := tk }) :
    wpAny (model prog w) A (pyNext (.ref z)) Q E s := by
  have hT : s.TypeIs (.ref z) "zip" := ⟨_, hz, rfl⟩
  unfold pyNext
  exact wpAny_bind (wpAny_attempt (wpAny_callSpecial?_slot (name := Str.ofString "__next__") hT F.slot_zip_next
    (wpAny_call_entry F.slot_zip_next hT F.entry_zip_next
      (zipE_item S D1 D2 hz hTI hTO st1 st2 hlt1 hlt2 fun x1 x2 h' tk y1 y2 b1 b2 d1 d2 b5 b6 b7 => wpAny_pure (hQ x1 x2 h' tk y1 y2 b1 b2 d1 d2 b5 b6 b7)) (F.args_zip_next_1 _))))
theorem pyNext_zipE_end {Q : Option Value → Shared → Prop} (hh : A.in1.handled = none) (S : ZipSep2 z TI TO i1 i2 fp1 fp2) (D1 : Draws prog w A.in1 i1 fp1 n P1 St1) (D2 : Draws prog w A.in1 i2 fp2 n P2 St2)
    (hz : IsZipE s.heap z TI TO .none) (hTI : IsTupOf2 s.heap TI (.ref i1) (.ref i2)) (hTO : IsTupOf2 s.heap TO a1 a2) (st1 : St1 n s.heap) (st2 : St2 n s.heap)
    (hQ : ∀ h' tk, (∀ c o, c ≠ z → c ≠ TO → c ≠ i1 → c ≠ i2 → s.heap.get? c = some o → h'.get? c = some o) → Q none { s with heap := h', toks := tk }) : wpAny (model prog w) A (pyNext (.ref z)) Q E s := by
  have hT : s.TypeIs (.ref z) "zip" := ⟨_, hz, rfl⟩
  unfold pyNext
  refine wpAny_bind (wpAny_attempt (wpAny_callSpecial?_slot (name := Str.ofString "__next__") hT F.slot_zip_next
    (wpAny_call_entry F.slot_zip_next hT F.entry_zip_next (zipE_end hh S D1 D2 hz hTI st1 st2 hTO fun h' tk e hk he => ?_) (F.args_zip_next_1 _))))
  obtain ⟨o, ho, hc⟩ := he
  refine wpAny_bind (wpAny_isInstance (T := "StopIteration") (b := true) ⟨o, ho, hc⟩ isSubtype_stop ?_)
  exact wpAny_pure (hQ _ _ hk)
theorem letGo_zipE {elts : List Expr} {x1} {pos : Pos} {T : Addr} {Q : Unit → Shared → Prop} (hz : IsZipE s.heap z TI TO (rawInt T))
    (hQ : ∀ h', IsZipE h' z TI TO .none → Heap.SameBut z s.heap h' → Q () { s with heap := h' }) :
    wpAny (model prog w) A (letOwnedTupleGo (.Tuple elts x1 pos) (.ref z) (.ref T)) Q E s := by
  unfold letOwnedTupleGo
  refine wpAny_bind (wpAny_load hz ?_)
  show wpAny _ _ (if (["enumerate", "zip", "dict_itemiterator", "dict_reverseitemiterator", "odict_iterator", "itertools.zip_longest", "itertools.pairwise"].contains "zip" &&
      (#[rawInt T, .bool false, .bool true, .ref TI, .ref TO] : Array Value)[0]? == some (rawInt T)) = true then _ else _) Q E s
  rw [if_pos (by simp)]
  refine wpAny_bind (wpAny_rule ?_)
  show wpAny _ _ (setField (.ref z) 0 .none) Q E s
  exact wpAny_setField_rec hz (by simp) fun h' hz' hs' => hQ h' hz' hs'
theorem pyIter_zipE {f0 : Value} {Q : Value → Shared → Prop} (hz : IsZipE s.heap z TI TO f0) (h : Q (.ref z) s) : wpAny (model prog w) A (pyIter (.ref z)) Q E s := by
  have hT : s.TypeIs (.ref z) "zip" := ⟨_, hz, rfl⟩
  refine wpAny_pyIter_slot hT F.slot_zip_iter (wpAny_call_entry F.slot_zip_iter hT F.entry_zip_iter ?_ (F.args_zip_iter_1 _))
  show wpAny _ _ (ret (.ref z)) _ _ s
  exact wpAny_pure ⟨_, rfl, "zip", _, hT, F.slot_zip_next.lookup, h⟩
end
abbrev geZ2 (h : Heap) (o1 o2 : Obj) : Heap := (gzO2 h o1 o2).push { cls := .type "zip", data := .fields #[.none, .bool false, .bool true, .ref ((h.push o1).push o2).objs.size, .ref (gzT2 h o1 o2).objs.size] }
theorem meets_zip_newE {v1 v2 : Value} {o1 o2 : Obj} {H1 H2 : Heap → Prop} (B1 : Begins v1 o1 H1) (B2 : Begins v2 o2 H2) :
    Meets (Builtin.«zip.__new__» ⟨[.type "zip", v1, v2], [(Str.ofString "strict", .bool true)]⟩) (fun _ R s => (H1 s.heap ∧ H2 s.heap) ∧
      R (.ok (.ret (.ref (gzO2 s.heap o1 o2).objs.size))) { s with heap := geZ2 s.heap o1 o2 }) :=
  .of_wp fun prog w A R s h => by
    obtain ⟨hp, g, d, tk, os⟩ := s; obtain ⟨⟨h1, h2⟩, h⟩ := h
    have hsub := sub_zip
    have e1 : (Str.ofString "strict" == ("strict" : Str)) = true := by decide +kernel
    have e2 : (Str.ofString "strict" != ("strict" : Str)) = false := by decide +kernel
    have q1 : ∀ {A' : Around} {E : Value → Shared → Prop} {Q : Value → Shared → Prop}, Q (.ref hp.objs.size) ⟨(hp.push o1), g, d, tk, os⟩ → wpAny (model prog w) A' (pyIter v1) Q E ⟨hp, g, d, tk, os⟩ :=
      fun q => B1.iter prog w _ _ ⟨hp, g, d, tk, os⟩ _ (B1.keeps _ _ h1 fun b o' e => e) q
    have q2 : ∀ {A' : Around} {E : Value → Shared → Prop} {Q : Value → Shared → Prop}, Q (.ref (hp.push o1).objs.size) ⟨((hp.push o1).push o2), g, d, tk, os⟩ → wpAny (model prog w) A' (pyIter v2) Q E ⟨(hp.push o1), g, d, tk, os⟩ :=
      fun q => B2.iter prog w _ _ ⟨(hp.push o1), g, d, tk, os⟩ _ (B2.keeps _ _ h2 fun b o' e => (Heap.get?_push_of_some _ e)) q
    wp_walk using q1, q2
    exact ⟨_, rfl, h⟩
namespace F
theorem typeCall_zip_strict (a b c : Value) : checkTypeCall "zip" ⟨[a, b], [(Str.ofString "strict", c)]⟩ = pure () := by kernel_rfl
theorem newCall_zip_strict (a b c : Value) : checkBuiltinCall "zip.__new__" ⟨[.type "zip", a, b], [(Str.ofString "strict", c)]⟩ = pure () := by kernel_rfl
theorem args_object_init_strict (obj a b c : Value) : argsOk "object.__init__" ⟨[obj, a, b], [(Str.ofString "strict", c)]⟩ := by unfold argsOk; kernel_rfl
end F
end PySem
end
section
set_option Elab.async false
set_option linter.all false
set_option maxRecDepth 100000
set_option maxHeartbeats 2000000
set_option autoImplicit false
namespace PySem
section
variable {prog : Program} {w : World} {A : Around} {E : Value → Shared → Prop} {s : Shared}
theorem zip_beginsE {v1 v2 : Value} {o1 o2 : Obj} {H1 H2 : Heap → Prop} {Q : Value → Shared → Prop} (B1 : Begins v1 o1 H1) (B2 : Begins v2 o2 H2) (h1 : H1 s.heap) (h2 : H2 s.heap)
    (h : ∀ h', IsZipE h' (s.heap.objs.size + 4) (s.heap.objs.size + 2) (s.heap.objs.size + 3) .none → IsTupOf2 h' (s.heap.objs.size + 2) (.ref s.heap.objs.size) (.ref (s.heap.objs.size + 1)) →
      IsTupOf2 h' (s.heap.objs.size + 3) .none .none → h'.get? s.heap.objs.size = some o1 → h'.get? (s.heap.objs.size + 1) = some o2 →
      (∀ c o, s.heap.get? c = some o → h'.get? c = some o) → Q (.ref (s.heap.objs.size + 4)) { s with heap := h' }) :
    wpAny (model prog w) A (call (.type "zip") [v1, v2] [(Str.ofString "strict", .bool true)]) Q E s := by
  refine callType_newKw F.called_zip (by decide) (F.typeCall_zip_strict _ _ _) (F.newCall_zip_strict _ _ _) (fun obj => F.args_object_init_strict obj _ _ _) F.entry_zip_new
    (meets_zip_newE B1 B2) ⟨⟨h1, h2⟩, ?_⟩
  have z1 : (s.heap.push o1).objs.size = s.heap.objs.size + 1 := by rw [Heap.size_push]
  have z2 : ((s.heap.push o1).push o2).objs.size = s.heap.objs.size + 2 := by rw [Heap.size_push, z1]
  have zT : (gzT2 s.heap o1 o2).objs.size = s.heap.objs.size + 3 := by rw [Heap.size_push, z2]
  have zO : (gzO2 s.heap o1 o2).objs.size = s.heap.objs.size + 4 := by rw [Heap.size_push, zT]
  have gZ : (geZ2 s.heap o1 o2).get? (gzO2 s.heap o1 o2).objs.size = some { cls := .type "zip", data := .fields #[.none, .bool false, .bool true, .ref ((s.heap.push o1).push o2).objs.size, .ref (gzT2 s.heap o1 o2).objs.size] } := Heap.get?_push_size _ rfl
  have gO : (geZ2 s.heap o1 o2).get? (gzT2 s.heap o1 o2).objs.size = some { cls := .type "tuple", data := .seq #[.none, .none] } := Heap.get?_push_of_some _ (Heap.get?_push_size _ rfl)
  have gT : (geZ2 s.heap o1 o2).get? ((s.heap.push o1).push o2).objs.size = some { cls := .type "tuple", data := .seq #[.ref s.heap.objs.size, .ref (s.heap.push o1).objs.size] } := Heap.get?_push_of_some _ (Heap.get?_push_of_some _ (Heap.get?_push_size _ rfl))
  have g1 : (geZ2 s.heap o1 o2).get? s.heap.objs.size = some o1 := Heap.get?_push_of_some _ (Heap.get?_push_of_some _ (Heap.get?_push_of_some _ (Heap.get?_push_of_some _ (Heap.get?_push_size _ B1.free))))
  have g2 : (geZ2 s.heap o1 o2).get? (s.heap.push o1).objs.size = some o2 := Heap.get?_push_of_some _ (Heap.get?_push_of_some _ (Heap.get?_push_of_some _ (Heap.get?_push_size _ B2.free)))
  rw [zO, zT, z2] at gZ
  rw [zT] at gO
  rw [z2, z1] at gT
  rw [z1] at g2
  show _ ∧ _
  rw [zO]
  exact ⟨⟨_, gZ, rfl⟩, h _ gZ gT gO g1 g2 fun c o e => Heap.get?_push_of_some _ (Heap.get?_push_of_some _ (Heap.get?_push_of_some _ (Heap.get?_push_of_some _ (Heap.get?_push_of_some _ e))))⟩
end
end PySem
namespace Ly
open PySem L2 PySem.Spec PyProof.Rows
/-! ### zip(.., strict=True) of two of one length -/
def Itx (K : PySem.W.Frag) (ka kb : Bool) (a b : Addr) : It :=
  ⟨fun i H => ∃ (xs ys : List V) (x y : V), SqK K ka H a xs ∧ SqK K kb H b ys ∧ xs[i]? = some x ∧ ys[i]? = some y,
    fun i H v H' => ∃ T x y, v = .ref T ∧ H T = none ∧ H' = upd H T (.tup [x, y]) ∧ (∀ xs, SqK K ka H a xs → xs[i]? = some x) ∧ ∀ ys, SqK K kb H b ys → ys[i]? = some y,
    fun i H => ∃ xs ys : List V, SqK K ka H a xs ∧ SqK K kb H b ys ∧ xs.length = i ∧ ys.length = i⟩
section
variable {P : Program} {w : World} {K : PySem.W.Frag} {elts : List Expr} {kk : Nat} {tpos : Pos} {ka kb : Bool} {a b z TI TO i1 i2 : Addr}
theorem turn_zipE (S : ZipSep2 z TI TO i1 i2 [i1, a] [i2, b]) (h1a : a ≠ i1) (h2b : b ≠ i2) :
    Turn P w K (.Tuple elts kk tpos) (Itx K ka kb a b) [z, TI, TO, i1, i2] z (fun i h => IsZipE h z TI TO .none ∧ IsTupOf2 h TI (.ref i1) (.ref i2) ∧ (∃ x y, IsTupOf2 h TO x y) ∧ ItS ka h i1 a i ∧ ItS kb h i2 b i) where
  mem := by simp
  obj := fun i h st c hc => by
    obtain ⟨hz, hTI, ⟨x, y, hTO⟩, j1, j2⟩ := st
    obtain ⟨o1, f1, e1, d1⟩ := its_ob j1
    obtain ⟨o2, f2, e2, d2⟩ := its_ob j2
    have e' : c = z ∨ c = TI ∨ c = TO ∨ c = i1 ∨ c = i2 := by simpa using hc
    rcases e' with q | q | q | q | q
    · rw [q]; exact ⟨_, hz, fun v q => nomatch q⟩
    · rw [q]; exact ⟨_, hTI, fun v q => nomatch q⟩
    · rw [q]; exact ⟨_, hTO, fun v q => nomatch q⟩
    · rw [q]; exact ⟨o1, e1, fun v q => by rw [d1] at q; cases q⟩
    · rw [q]; exact ⟨o2, e2, fun v q => by rw [d2] at q; cases q⟩
  keep := fun i h h' st k => by
    obtain ⟨hz, hTI, ⟨x, y, hTO⟩, h1, h2⟩ := st
    exact ⟨k z (by simp) _ hz, k TI (by simp) _ hTI, ⟨x, y, k TO (by simp) _ hTO⟩, its_at h1 fun o q => k i1 (by simp) o q, its_at h2 fun o q => k i2 (by simp) o q⟩
  item := by
    intro X hP hw hK hc i pins s σ H E I hf st hg
    subst hP hw hK
    obtain ⟨hz, hTI, ⟨x0, y0, hTO⟩, h1, h2⟩ := st
    obtain ⟨xs, ys, x, y, hqx, hqy, hx, hy⟩ := hg
    obtain ⟨its, rv, p⟩ := inv_sq I hqx
    obtain ⟨its2, rv2, p2⟩ := inv_sq I hqy
    obtain ⟨u, hu, ru⟩ := rv.get hx
    obtain ⟨u2, hu2, ru2⟩ := rv2.get hy
    have hzl : z < s.heap.objs.size := Heap.lt_size hz
    have hl1 : i < its.toArray.size := by simpa using (List.getElem?_eq_some_iff.mp hu).1
    have hl2 : i < its2.toArray.size := by simpa using (List.getElem?_eq_some_iff.mp hu2).1
    have hh : X.A.in1.handled = none := I.ok.hd hc
    refine pyNext_zipE_item S (draws_s hh ka i1 a h1a its.toArray) (draws_s hh kb i2 b h2b its2.toArray) hz hTI hTO ⟨h1, p⟩ ⟨h2, p2⟩ hl1 hl2 fun v1 v2 h' tk e1 e2 z' TO' j1 j2 hT hsz hk => ?_
    have ev1 : v1 = u := by
      have hu' : its.toArray[i]? = some u := by simpa using hu
      rw [hu'] at e1
      exact (Option.some.inj e1).symm
    have ev2 : v2 = u2 := by
      have hu' : its2.toArray[i]? = some u2 := by simpa using hu2
      rw [hu'] at e2
      exact (Option.some.inj e2).symm
    subst ev1 ev2
    refine ⟨_, rfl, letGo_zipE (s := { s with heap := h', toks := tk }) z' fun h'' z'' sb => ?_⟩
    have hT2 : h''.get? s.heap.objs.size = some { cls := .type "tuple", data := .seq #[v1, v2] } := (sb.2 _ (Nat.ne_of_gt hzl)).trans hT
    have new : ObjOk X.prog X.w (upd H s.heap.objs.size (.tup [x, y])) h'' s.heap.objs.size (.tup [x, y]) :=
      ⟨by show 2 ≤ sizeLine; decide, [v1, v2], .cons ru (.cons ru2 .nil), ⟨_, hT2, rfl, _, rfl⟩⟩
    have I1 : Inv X pins σ (upd H s.heap.objs.size (.tup [x, y])) { s with heap := h'', toks := tk } :=
      I.turnedNew (ch := [z, TI, TO, i1, i2]) (fun c o hb q => (sb.2 c (fun q' => hb (by simp [q']))).trans (hk c o (fun q' => hb (by simp [q'])) (fun q' => hb (by simp [q'])) (fun q' => hb (by simp [q'])) (fun q' => hb (by simp [q'])) q)) hf (Nat.le_refl _) new
    refine ⟨.ref s.heap.objs.size, _, I1, rfl, ⟨_, x, y, rfl, I.hok.fresh (Nat.le_refl _), rfl, fun l hl => by rw [inv_sq_inj I hl hqx]; exact hx, fun l hl => by rw [inv_sq_inj I hl hqy]; exact hy⟩, ⟨z'', ?_, ⟨v1, v2, ?_⟩, ?_, ?_⟩, fun c hcm => ?_⟩
    · exact (sb.2 _ S.TIz).trans (hk _ _ S.TIz S.TITO S.TIi1 S.TIi2 hTI)
    · exact (sb.2 _ S.TOz).trans TO'
    · exact its_at j1.1 fun o q => (sb.2 _ S.zi1.symm).trans q
    · exact its_at j2.1 fun o q => (sb.2 _ S.zi2.symm).trans q
    · have hlt : c < s.heap.objs.size := by
        have e' : c = z ∨ c = TI ∨ c = TO ∨ c = i1 ∨ c = i2 := by simpa using hcm
        rcases e' with q | q | q | q | q
        · rw [q]; exact hzl
        · rw [q]; exact Heap.lt_size hTI
        · rw [q]; exact Heap.lt_size hTO
        · rw [q]; obtain ⟨_, _, e1, _⟩ := its_ob h1; exact Heap.lt_size e1
        · rw [q]; obtain ⟨_, _, e2, _⟩ := its_ob h2; exact Heap.lt_size e2
      rw [upd_ne (Nat.ne_of_lt hlt)]
      exact (hf c hcm).1
  done := by
    intro X hP hw hK hc i pins s σ H E I hf st hg
    subst hP hw hK
    obtain ⟨hz, hTI, ⟨x0, y0, hTO⟩, h1, h2⟩ := st
    obtain ⟨xs, ys, hqx, hqy, le1, le2⟩ := hg
    obtain ⟨its, rv, p⟩ := inv_sq I hqx
    obtain ⟨its2, rv2, p2⟩ := inv_sq I hqy
    have l1 : its.toArray.size = i := by rw [← le1]; simpa using rv.length.symm
    have l2 : its2.toArray.size = i := by rw [← le2]; simpa using rv2.length.symm
    have hh : X.A.in1.handled = none := I.ok.hd hc
    have D1 := draws_s (prog := X.prog) (w := X.w) hh ka i1 a h1a its.toArray
    have D2 := draws_s (prog := X.prog) (w := X.w) hh kb i2 b h2b its2.toArray
    rw [l1] at D1
    rw [l2] at D2
    exact pyNext_zipE_end hh S D1 D2 hz hTI hTO ⟨h1, p⟩ ⟨h2, p2⟩ fun h' tk hk => ⟨rfl, I.turnedL (t' := tk) (ch := [z, TI, TO, i1, i2]) (fun c o hb q =>
      hk c o (fun q' => hb (by simp [q'])) (fun q' => hb (by simp [q'])) (fun q' => hb (by simp [q'])) (fun q' => hb (by simp [q'])) q) hf⟩
  self := fun A i s Q E st h => pyIter_zipE st.1 h
end
def iZipE (K : PySem.W.Frag) (ta tk : TA) : TI := fun σ H R => ta σ H fun vs H1 => tk σ H1 fun zs H2 => ∃ a b ka kb xs ys, vs = [.ref a, .ref b] ∧ zs = [V.bl true] ∧ SqK K ka H2 a xs ∧ SqK K kb H2 b ys ∧ R (Itx K ka kb a b) H2
theorem pi_zipE {X : Cx} {e e2 : Expr} {ta tk : TA} {p pos tpos : Pos} {elts : List Expr} {kk : Nat} {kws : List Keyword} (hg : Gl X "zip") (hm : X.mg "zip" = none) (ha : PA X [e, e2] ta) (hk : PK X kws tk)
    (he : starEach [e, e2] X.env = (false, eval e X.env) :: starEach [e2] X.env := by rfl) (hpl : (backTo pos (starEach [e, e2] X.env)).any (·.1) = false := by rfl)
    (hall : (backToKw pos (keywordEach kws X.env)).all (·.1.isSome) = true := by rfl) (hnone : (backToKw pos (keywordEach kws X.env)).any (·.1.isNone) = false := by rfl) (hks : (backToKw pos (keywordEach kws X.env)).filterMap (·.1) = [Str.ofString "strict"] := by rfl) :
    PI X (.Tuple elts kk tpos) (.Call (.Name "zip" p) [e, e2] kws pos) (iZipE X.K ta tk) := by
  refine ⟨fun pins s σ H R I h => ?_⟩
  refine wpAny_Call_Name_kw (ld_blt I hg hm PyProof.Rows.boot_zip ?_)
  refine callWith_typeK (thn (ha.run pos pins s σ H _ I h) fun us s1 ⟨vs, H1, I1, r1, q1⟩ => thn (hk.run pos pins s1 σ H1 _ I1 q1) fun ws s2 ⟨zs, H2, I2, r2, q2⟩ => ?_) he hpl hall hnone
  rw [hks]
  obtain ⟨a, b, ka, kb, xs, ys, ex, ez, hqx, hqy, q⟩ := q2
  subst ex ez
  cases r1 with
  | cons r rr =>
    cases rr with
    | cons r' rr =>
      cases rr
      cases r
      cases r'
      cases r2 with
      | cons r3 rr =>
        cases rr
        cases r3
        obtain ⟨its, rv, p1⟩ := inv_sq I2 hqx
        obtain ⟨its2, rv2, p2⟩ := inv_sq I2 hqy
        have la : a < s2.heap.objs.size := iss_lt p1
        have lb : b < s2.heap.objs.size := iss_lt p2
        show wpAny _ _ (call (.type "zip") [.ref a, .ref b] [(Str.ofString "strict", .bool true)]) _ _ s2
        refine zip_beginsE (begins_s ka a its.toArray) (begins_s kb b its2.toArray) p1 p2 fun h' hz hTI hTO h1 h2 hk => pyIter_zipE hz ?_
        have I3 : Inv X pins σ H2 { s2 with heap := h' } := I2.kept (t' := s2.toks) hk
        refine ⟨s2.heap.objs.size + 4, [s2.heap.objs.size + 4, s2.heap.objs.size + 2, s2.heap.objs.size + 3, s2.heap.objs.size, s2.heap.objs.size + 1], _, _, H2, rfl, I3, turn_zipE (sep_new la lb) (Nat.ne_of_lt la) (Nat.ne_of_lt (Nat.lt_succ_of_lt lb)), ⟨hz, hTI, ⟨_, _, hTO⟩, its_new h1, its_new h2⟩, fun c hcm => ?_, q⟩
        have e' : c = s2.heap.objs.size + 4 ∨ c = s2.heap.objs.size + 2 ∨ c = s2.heap.objs.size + 3 ∨ c = s2.heap.objs.size ∨ c = s2.heap.objs.size + 1 := by simpa using hcm
        have hle : s2.heap.objs.size ≤ c := by
          rcases e' with z | z | z | z | z
          · rw [z]; exact Nat.le_add_right _ _
          · rw [z]; exact Nat.le_add_right _ _
          · rw [z]; exact Nat.le_add_right _ _
          · rw [z]; exact Nat.le_refl _
          · rw [z]; exact Nat.le_add_right _ _
        exact I2.fpOk hle (I2.hok.fresh hle)
theorem walk_zipE {K : PySem.W.Frag} {ka kb : Bool} {a b : Addr} {xs ys : List V} (hl : xs.length = ys.length) : Walk (Itx K ka kb a b) xs.length (fun H' => SqK K ka H' a xs ∧ SqK K kb H' b ys) (fun i H v H' => ∃ T x y, v = V.ref T ∧ H T = none ∧ H' = upd H T (.tup [x, y]) ∧ xs[i]? = some x ∧ ys[i]? = some y) where
  goes := fun i H hi g => ⟨xs, ys, xs[i]'hi, ys[i]'(by omega), g.1, g.2, List.getElem?_eq_getElem _, List.getElem?_eq_getElem _⟩
  stops := fun H g => ⟨xs, ys, g.1, g.2, rfl, hl.symm⟩
  yields := fun i H x H' _ g y => by
    obtain ⟨T, u, v, e1, e2, e3, e4, e5⟩ := y
    exact ⟨T, u, v, e1, e2, e3, e4 xs g.1, e5 ys g.2⟩
section
variable {K : PySem.W.Frag} {Z : Zn} {H0 H1 : Hp} {L L' : Own} {Γ Γ' : Gam} {σ : L2.St} {H H' : Hp} {W : Hp → Addr → Prop} {te ta tb : TE}
theorem it_zipE {ta tk : TA} {N : Addr → Prop} {PL : List Dt → List Dt → Prop} (h : EVA K Z H0 L Γ (fun _ => N) ta (fun l => ∃ d e ds es, l = [d, e] ∧ IsSq d ds ∧ IsSq e es ∧ PL ds es)) (hk : EVA K Z H0 L Γ W tk (Eq [.bl true])) (hN : ∀ b, Z.M b → N b) (hl : ∀ ds es, PL ds es → ds.length = es.length) : IT K Z H0 L Γ N (iZipE K ta tk) (fun l => ∃ ds es, PL ds es ∧ l = zipD ds es) := fun σ H a R k =>
  h σ H a _ fun ds vs H1 p g j x => hk σ H1 (a.step g j) _ fun zs ws H2 pz gz jz xz => by
    subst pz
    obtain ⟨d, e, ds, es, rfl, s1, s2, pl⟩ := p
    have hl := hl ds es pl
    cases xz with
    | cons xz l =>
      cases l
      cases xz
      replace x := x.mono (gz.weak hN)
      cases x with
      | cons x l =>
        cases l with
        | cons y l =>
          cases l
          obtain ⟨b, ka, xs, rfl, e1, e2, e3⟩ := sqk_of s1 x
          obtain ⟨c, kb, ys, rfl, f1, f2, f3⟩ := sqk_of s2 y
          have hl1 := e2.length
          have hl2 := f2.length
          refine ⟨b, c, ka, kb, xs, ys, rfl, rfl, e1, f1, k (zipD ds es) _ H2 (fun H' => SqK K ka H' b xs ∧ SqK K kb H' c ys) _ ⟨ds, es, pl, rfl⟩ (by rw [zipD_len, show min ds.length es.length = xs.length by omega]; exact walk_zipE (by omega)) (g.trans gz) jz (fun H' g' => ⟨e3 H' g', f3 H' g'⟩) fun i H' x H2 hi g' y => ?_⟩
          obtain ⟨T, u, v, e4, e5, e6, e7, e8⟩ := y
          obtain ⟨d, hd, ix⟩ := e2.getV e7
          obtain ⟨e, he, iy⟩ := f2.getV e8
          obtain ⟨ex, iq⟩ := pair_new (H1 := H1) (ix.mono g') (iy.mono g') ⟨T, e4, e5, e6⟩
          exact ⟨ex, _, zipD_get hd he, iq⟩
end
end Ly
end
section
set_option Elab.async false
set_option linter.all false
set_option maxRecDepth 100000
set_option maxHeartbeats 2000000
set_option autoImplicit false
namespace Ly
open PySem L2 PySem.Spec PyProof.Rows
theorem tuple_mul1 (l : Addr) (items : Array Value) (n : Nat) (dd : Option Addr) (sl : Array (Option Value)) (x : Int) (u : Tok) (hx : x = 1) :
    Meets (Builtin.«tuple.__mul__» ⟨[.ref l, .int x u], []⟩) (fun _ R s => s.heap.get? l = some { cls := .type "tuple", dict := dd, data := .seq items n, slots := sl } ∧ R (.ok (.ret (Value.ref l))) s) :=
  .of_wp fun prog w A R s h => by
    subst hx
    obtain ⟨hp, g, d, tk, os⟩ := s
    obtain ⟨hl, h⟩ := h
    have f1 := AutoSeq1.idx_int
    have c1 : (items.isEmpty || (1 : Int) == 1) = true := by rw [show ((1 : Int) == 1) = true from rfl, Bool.or_true]
    wp_walk using wpAny_loadPart' hl
    repeat (first
      | (refine wpAny_ite_false (by decide) ?_; wp_walk using wpAny_loadPart' hl)
      | (refine wpAny_ite_true (by simp) ?_; wp_walk using wpAny_loadPart' hl))
    exact ⟨_, rfl, h⟩
theorem tuple_mul0 (l : Addr) (items : Array Value) (n : Nat) (dd : Option Addr) (sl : Array (Option Value)) (x : Int) (u : Tok) (hx : x = 0) (hi : items.isEmpty = false) :
    Meets (Builtin.«tuple.__mul__» ⟨[.ref l, .int x u], []⟩) (fun _ R s => s.heap.get? l = some { cls := .type "tuple", dict := dd, data := .seq items n, slots := sl } ∧
      R (.ok (.ret (Value.ref s.heap.objs.size))) { s with heap := s.heap.push { cls := Value.type "tuple", data := Data.seq #[] } }) :=
  .of_wp fun prog w A R s h => by
    subst hx
    obtain ⟨hp, g, d, tk, os⟩ := s
    obtain ⟨hl, h⟩ := h
    have f1 := AutoSeq1.idx_int
    wp_walk using wpAny_loadPart' hl
    exact ⟨_, rfl, h⟩
/-- a tuple of things, k times (any small k) -/
def rRepU (K : PySem.W.Frag) : R2 := fun x y H Q => ∃ l k xs, x = .ref l ∧ y = .int k ∧ SqT K H l xs ∧ xs ≠ [] ∧ 0 ≤ k ∧ k ≤ 1000 ∧ xs.length ≤ 1000 ∧ (k = 1 → Q (.ref l) H) ∧ (k ≠ 1 → ∀ p, H p = none → Q (.ref p) (upd H p (.tup (List.replicate k.toNat xs).flatten)))
section
variable {X : Cx}
theorem op_repU : OpR X (binaryOp .Mult) (rRepU X.K) := by
  intro pins s σ H x y v u Q I rx ry h
  obtain ⟨l, k, xs, rfl, rfl, hT, hne, h1, h2, hz, q1, q2⟩ := h
  by_cases k2 : 2 ≤ k
  · exact op_repT pins s σ H _ _ v u Q I rx ry ⟨l, k, xs, rfl, rfl, hT, hne, k2, h2, hz, q2 (by omega)⟩
  cases rx
  obtain ⟨t, rfl⟩ := ry
  obtain ⟨its, r, ⟨⟨cls, dd, data, sl⟩, ho, hc, n, hd⟩, hs⟩ := I.tuple hT
  simp only at hc hd
  subst hc hd
  have hle : its.length = xs.length := r.length.symm
  have hn : its ≠ [] := fun e => hne (by
    rw [e] at hle
    exact List.eq_nil_of_length_eq_zero hle.symm)
  have hi : its.toArray.isEmpty = false := by
    cases its with
    | nil => exact absurd rfl hn
    | cons a b => rfl
  by_cases k1 : k = 1
  · refine wpAny_binaryOp_repeat_ref (T := "tuple") (U := "int") (by decide) ⟨_, ho, rfl⟩ (fun s' => typeIs_int s' k t) noFill_tuple_mul F.fills_int_mul F.slot_int_rmul repeat_tuple F.slot_int_index.lookup
      (call_meets F.slot_int_rmul (typeIs_int s k t) F.entry_int_rmul (F.args_int_rmul_2 _ _) (int_rmul_tuple k t l its.toArray n dd sl)
        ⟨ho, rfl, ⟨_, ho, rfl⟩, call_meets F.slot_tuple_mul ⟨_, ho, rfl⟩ F.entry_tuple_mul (F.args_tuple_mul_2 _ _) (tuple_mul1 l its.toArray n dd sl k t k1) ⟨ho, ?_⟩⟩)
    exact ⟨.ref l, H, I, rfl, q1 k1⟩
  · have k0 : k = 0 := by omega
    refine wpAny_binaryOp_repeat_ref (T := "tuple") (U := "int") (by decide) ⟨_, ho, rfl⟩ (fun s' => typeIs_int s' k t) noFill_tuple_mul F.fills_int_mul F.slot_int_rmul repeat_tuple F.slot_int_index.lookup
      (call_meets F.slot_int_rmul (typeIs_int s k t) F.entry_int_rmul (F.args_int_rmul_2 _ _) (int_rmul_tuple k t l its.toArray n dd sl)
        ⟨ho, rfl, ⟨_, ho, rfl⟩, call_meets F.slot_tuple_mul ⟨_, ho, rfl⟩ F.entry_tuple_mul (F.args_tuple_mul_2 _ _) (tuple_mul0 l its.toArray n dd sl k t k0 hi) ⟨ho, ?_⟩⟩)
    have q := q2 k1
    subst k0
    refine ⟨.ref s.heap.objs.size, _, I.laid (t' := s.toks) (o := .tup []) (fun b ob q => Heap.get?_push_of_some _ q) (Nat.le_refl _) ?_, rfl, q _ (I.hok.fresh (Nat.le_refl _))⟩
    exact ⟨Nat.zero_le _, _, .nil, IsTup.new _ _⟩
end
section
variable {K : PySem.W.Frag} {Z : Zn} {H0 H1 : Hp} {L L' : Own} {Γ Γ' : Gam} {σ : L2.St} {H H' : Hp}
variable {W W' W1 W2 : Hp → Addr → Prop} {te ta tb : TE} {tt tu : TT} {P P1 P2 : Dt → Prop} {d e f : Dt} {ds es : List Dt}
/-- * : ints; a tuple so many times -/
def rMulV (K : PySem.W.Frag) : R2 := fun x y H Q => rI IntMulOk (fun i j => .int (i * j)) x y H Q ∨ rRepU K x y H Q
theorem op_mulX {X : Cx} : OpR X (binaryOp .Mult) (rI IntMulOk fun i j => .int (i * j)) := opI fun _ _ _ _ _ _ _ hc q => mul_int q hc
theorem op_mulV {X : Cx} : OpR X (binaryOp .Mult) (rMulV X.K) := op_mulX.or op_repU
theorem x_mulV {X : Cx} (h : X.K = K := by rfl) : OpR X (binaryOp .Mult) (rMulV K) := h ▸ op_mulV
theorem rr_mulV {i j : Int} (h : CMulW i j) : RR K (rMulV K) (.int i) (.int j) (Eq (.int (i * j))) := RR.l (rr_I h.ok fun _ _ => .int _)
/-- a short second factor: the other of any size -/
theorem rr_mulS {i j : Int} (h : Nat.ble (Builtin.Int.intBits j) 64 = true) : RR K (rMulV K) (.int i) (.int j) (Eq (.int (i * j))) := RR.l (rr_I (.of_right (Nat.le_of_ble_eq_true h)) fun _ _ => .int _)
theorem isl_rep {M : Addr → Prop} {vs : List V} (h : IsL K M H ds vs) : ∀ k : Nat, IsL K M H (List.replicate k ds).flatten (List.replicate k vs).flatten
  | 0 => .nil
  | k + 1 => by
    rw [List.replicate_succ, List.replicate_succ, List.flatten_cons, List.flatten_cons]
    exact h.append (isl_rep h k)
end
end Ly
end
section
set_option Elab.async false
set_option linter.all false
set_option maxRecDepth 100000
set_option maxHeartbeats 2000000
set_option autoImplicit false
namespace Ly
open PySem L2 PySem.Spec PyProof.Rows PySem.W
/-! ### sorted, of data -/
/-- items with what they read as -/
def rSortD (K : PySem.W.Frag) (rev : Bool) : List V → Hp → VK → Prop := fun vs H Q => ∃ (a : Addr) (bs : List (V × PyData)), vs = [V.ref a] ∧ (SqL K H a (bs.map Prod.fst) ) ∧ (∀ b ∈ bs, Dp K H b.1 b.2 ∧ b.2.depth ≤ 30) ∧
  AllAlike (bs.map Prod.snd) ∧ Sortable (bs.map Prod.snd) ∧ ∀ p, H p = none → Q (.ref p) (upd H p (.lst ((bs.mergeSort (dataLe rev Prod.snd)).map Prod.fst)))
def rSortDK (K : PySem.W.Frag) (rev : Bool) : List V → List V → Hp → VK → Prop := fun vs zs H Q => zs = [.bl rev] ∧ rSortD K rev vs H Q
theorem vals_each {vs : List V} {us : List Value} : Vals vs us → ∀ {bs : List (V × PyData)}, bs.map Prod.fst = vs → EachIs (fun u (b : V × PyData) => RelV b.1 u) us bs
  | .nil, [], _ => .nil
  | .nil, _ :: _, e => by cases e
  | .cons h t, [], e => by cases e
  | .cons h t, b :: bs, e => by
    obtain ⟨e1, e2⟩ := List.cons.inj e
    exact .cons (by show RelV b.1 _; rw [e1]; exact h) (vals_each t e2)
theorem each_vals : ∀ {us : List Value} {bs : List (V × PyData)}, EachIs (fun u (b : V × PyData) => RelV b.1 u) us bs → Vals (bs.map Prod.fst) us
  | _, _, .nil => .nil
  | _, _, .cons h t => .cons h (each_vals t)
theorem each_and {α β : Type} {R S : α → β → Prop} {as : List α} {bs : List β} (h : EachIs R as bs) (k : ∀ a b, b ∈ bs → R a b → S a b) : EachIs S as bs := by
  induction h with
  | nil => exact .nil
  | cons h t ih => exact .cons (k _ _ (List.mem_cons_self ..) h) (ih fun a b m => k a b (List.mem_cons_of_mem _ m))
section
variable {X : Cx} {pins : List (Addr × Obj)} {σ : L2.St} {H : Hp} {s : Shared} {rev : Bool}
theorem sortD_fin {a : Addr} {bs : List (V × PyData)} {its out : List Value} {Q : VK} (I : Inv X pins σ H s) (hz : (bs.map Prod.fst).length ≤ sizeLine) (ho : EachIs (fun u (b : V × PyData) => RelV b.1 u) out (bs.mergeSort (dataLe rev Prod.snd)))
    (q : ∀ p, H p = none → Q (.ref p) (upd H p (.lst ((bs.mergeSort (dataLe rev Prod.snd)).map Prod.fst)))) : EP X pins σ Q (.ref (s.heap.objs.size + 1)) { s with heap := sortedAll s.heap its (List.toArray out) } := by
  obtain ⟨ep, he'⟩ := PyProof.Rows.sortedAll_at s.heap its (List.toArray out)
  refine ⟨.ref _, upd H (s.heap.objs.size + 1) (.lst ((bs.mergeSort (dataLe rev Prod.snd)).map Prod.fst)), I.laid (t' := s.toks) (fun _ _ => PyProof.Rows.sortedAll_old) (Nat.le_succ _) ⟨?_, _, ep, each_vals ho, by simpa using he'⟩, rfl, q _ (I.hok.fresh (Nat.le_succ _))⟩
  rw [List.length_map, List.length_mergeSort]
  rw [List.length_map] at hz
  exact hz
theorem cr_sortD (hu : X.A.units + 64 < cLine) : CallR X (.builtin "sorted") (rSortD X.K false) := by
  intro pins s σ H vs us Q I r h
  obtain ⟨a, bs, rfl, hs, hb, hal, hk, q⟩ := h
  obtain rfl := Vals.ref1 r
  obtain ⟨its, rv, hl, hz⟩ := I.list hs
  have e := vals_each rv rfl
  exact sorted_data (R := fun u (b : V × PyData) => RelV b.1 u) (enc := Prod.snd) hl.isList e (each_and e fun u b m r => (hb b m).1.reads I _ _ _ r) hal hk (by rw [List.length_map] at hz; exact hz) (fun b m => by have := (hb b m).2; omega) fun out _ ho => sortD_fin (a := a) I hz ho q
theorem cr_sortDK (hu : X.A.units + 64 < cLine) : CallRK X (.builtin "sorted") [Str.ofString "reverse"] (rSortDK X.K rev) := by
  intro pins s σ H vs zs us ws Q I r rz h
  obtain ⟨rfl, a, bs, rfl, hs, hb, hal, hk, q⟩ := h
  obtain rfl := Vals.ref1 r
  obtain ⟨w1, rfl, e1⟩ := vals1 rz
  obtain rfl : w1 = Value.bool rev := e1
  obtain ⟨its, rv, hl, hz⟩ := I.list hs
  have e := vals_each rv rfl
  exact sorted_rev_data (R := fun u (b : V × PyData) => RelV b.1 u) (enc := Prod.snd) hl.isList e (each_and e fun u b m r => (hb b m).1.reads I _ _ _ r) hal hk (by rw [List.length_map] at hz; exact hz) (fun b m => by have := (hb b m).2; omega) fun out _ ho => sortD_fin (a := a) I hz ho q
end
/-! rows of ints -/
abbrev rowD (r : List Int) : Dt := .tup (r.map .int)
/-- sorted(rows), or with reverse=True -/
def sortR (rev : Bool) (rows : List (List Int)) : List (List Int) := rows.mergeSort fun x y => cond rev (decide (y ≤ x)) (decide (x ≤ y))
theorem dataLt_rowT (x y : List Int) : (!dataLt (.tuple (x.map .int)) (.tuple (y.map .int))) = decide (y ≤ x) := by
  rw [dataLt_tuple]
  show (!rowLt (x.map .int) (y.map .int)) = _
  rw [dataLt_ints]
  by_cases h : x < y
  · have h' : ¬ y ≤ x := fun r => List.not_lt.mpr r h
    simp [h, h']
  · have h' : y ≤ x := List.not_lt.mp h
    simp [h, h']
theorem dataLe_rowT (rev : Bool) (x y : List Int) : dataLe rev (fun b : PyData => b) (.tuple (x.map .int)) (.tuple (y.map .int)) = cond rev (decide (y ≤ x)) (decide (x ≤ y)) := by
  rw [dataLe_eq]
  show cond rev (!dataLt (.tuple (x.map .int)) (.tuple (y.map .int))) (!dataLt (.tuple (y.map .int)) (.tuple (x.map .int))) = _
  rw [dataLt_rowT, dataLt_rowT]
abbrev rowP (r : List Int) : PyData := .tuple (r.map .int)
theorem pd_row (r : List Int) : (rowD r).pd = rowP r := by
  show PyData.tuple (pdL (r.map .int)) = .tuple (r.map .int)
  congr 1
  induction r with
  | nil => rfl
  | cons x r ih => exact congrArg (PyData.int x :: ·) ih
theorem ok_row (r : List Int) : (rowD r).ok = true := by
  show okL (r.map .int) = true
  induction r with
  | nil => rfl
  | cons x r ih => exact ih
theorem isl_zip {K : PySem.W.Frag} {M : Addr → Prop} {H : Hp} : ∀ {rows : List (List Int)} {vs : List V}, IsL K M H (rows.map rowD) vs → ∃ zs : List (V × List Int), zs.map Prod.fst = vs ∧ zs.map Prod.snd = rows ∧ ∀ z ∈ zs, Is K M H (rowD z.2) z.1
  | [], [], _ => ⟨[], rfl, rfl, fun _ h => nomatch h⟩
  | [], _ :: _, h => by cases h
  | r :: rows, _, h => by
    cases h with
    | cons x l =>
      obtain ⟨zs, e1, e2, e3⟩ := isl_zip l
      refine ⟨(_, r) :: zs, by rw [List.map_cons, e1], by rw [List.map_cons, e2], fun z m => ?_⟩
      rcases List.mem_cons.mp m with q | q
      · subst q; exact x
      · exact e3 z q
theorem isl_of_zip {K : PySem.W.Frag} {M : Addr → Prop} {H : Hp} : ∀ {zs : List (V × List Int)}, (∀ z ∈ zs, Is K M H (rowD z.2) z.1) → IsL K M H (zs.map fun z => rowD z.2) (zs.map Prod.fst)
  | [], _ => .nil
  | z :: zs, h => .cons (h z (List.mem_cons_self ..)) (isl_of_zip fun y m => h y (List.mem_cons_of_mem _ m))
section
variable {K : PySem.W.Frag} {rows : List (List Int)}
theorem rc_sortR {rev : Bool} (hne : ∀ r ∈ rows, r ≠ []) : RC K (rSortD K rev) [.lst (rows.map rowD)] (Eq (.lst ((sortR rev rows).map rowD))) := fun M H vs h Q k => by
  cases h with
  | cons h l =>
    cases l
    cases h with
    | lst e n l =>
      rename_i a xs
      obtain ⟨zs, e1, e2, e3⟩ := isl_zip l
      have m1 : (zs.map fun z => (z.1, rowP z.2)).map Prod.fst = xs := by rw [List.map_map, ← e1]; rfl
      have m2 : (zs.map fun z => (z.1, rowP z.2)).map Prod.snd = rows.map rowP := by rw [List.map_map, ← e2, List.map_map]; rfl
      refine ⟨a, zs.map fun z => (z.1, rowP z.2), rfl, by rw [m1]; exact SqL.of e, fun b hb => ?_, ?_, ?_, fun p hp => ?_⟩
      · obtain ⟨z, hz, rfl⟩ := List.mem_map.mp hb
        refine ⟨?_, ?_⟩
        · have := (e3 z hz).dp (ok_row z.2)
          rw [pd_row] at this
          exact this
        · show PyData.depth (.tuple (z.2.map .int)) ≤ 30
          rw [PyData.depth, depth_ints]
          decide
      · rw [m2]
        refine AllAlike.of fun b b' => ?_
        show alike (.tuple (b.map .int)) (.tuple (b'.map .int)) = true
        rw [alike]
        exact alike_ints b b'
      · rw [m2]
        refine .inl fun d hd => ?_
        obtain ⟨r, hr, rfl⟩ := List.mem_map.mp hd
        cases r with
        | nil => exact absurd rfl (hne [] hr)
        | cons x r => exact ⟨_, _, rfl⟩
      · have ms : ((zs.map fun z => (z.1, rowP z.2)).mergeSort (dataLe rev Prod.snd)) = (zs.mergeSort fun x y => cond rev (decide (y.2 ≤ x.2)) (decide (x.2 ≤ y.2))).map fun z => (z.1, rowP z.2) :=
          (List.map_mergeSort (f := fun z : V × List Int => (z.1, rowP z.2)) (r := fun x y => cond rev (decide (y.2 ≤ x.2)) (decide (x.2 ≤ y.2))) (s := dataLe rev Prod.snd) fun x _ y _ => (dataLe_rowT rev x.2 y.2).symm).symm
        have mr : (zs.mergeSort fun x y => cond rev (decide (y.2 ≤ x.2)) (decide (x.2 ≤ y.2))).map Prod.snd = sortR rev rows := by
          unfold sortR
          rw [← e2]
          exact List.map_mergeSort fun x _ y _ => rfl
        rw [ms, List.map_map]
        refine k _ _ _ rfl (Ex.new hp) (.lst upd_same (fun z => z hp) ?_)
        have q := isl_of_zip (zs := zs.mergeSort fun x y => cond rev (decide (y.2 ≤ x.2)) (decide (x.2 ≤ y.2))) (K := K) (M := M) (H := H) fun z hz => e3 z ((List.mergeSort_perm _ _).mem_iff.mp hz)
        rw [← mr, List.map_map]
        have i : ImmL ((zs.mergeSort fun x y => cond rev (decide (y.2 ≤ x.2)) (decide (x.2 ≤ y.2))).map fun z => rowD z.2) := inferInstance
        exact i.any _ _ _ _ _ (q.mono (Gm.new hp))
end
end Ly
end
section
set_option Elab.async false
set_option linter.all false
set_option maxRecDepth 100000
set_option maxHeartbeats 2000000
set_option autoImplicit false
namespace PySem.W
open PySem PySem.Calls PyProof.Rows Builtin
section
variable {prog : Program} {w : World} {A : Around} {E : Value → Shared → Prop} {s : Shared} {K : Frag} {x C L f : Addr} {h₀ : Heap} {m : Str → Option Value} {ox : Obj} {od : Option Obj} {b tb : Value}
/-- a built-in's slot that an instance of an own class has from its base -/
theorem ifBound_B {M : Model} {name : Str} {id : String} {args : List Value} {Q : Option Value → Shared → Prop} (X : K.In s.heap) (I : InstAt s.heap x ox C od) (hs : findIn K (.ref C) name = some (some (.builtin id))) (S : bindSpecial (.builtin id) (.ref x) = pure (.builtin id, [.ref x]))
    (h : wpAny M A (call (.builtin id) (.ref x :: args)) (fun v => Q (some v)) E s) : wpAny M A (callSpecialIfBound? (.ref x) name args) Q E s := by
  simp only [callSpecialIfBound?, bindSpecialIfBound?]
  refine wpAny_holding (wpAny_bind (wpAny_bind (wpAny_bind (I.type.here ((looks_findIn X hs).here ?_)))))
  simp only [S]
  refine wpAny_bind (wpAny_askSetting (wpAny_ite ?_))
  have fin : wpAny M A (call (.builtin id) ([.ref x] ++ args) >>= fun v => pure (some v)) Q E s := wpAny_bind (wpAny_mono h (fun v s' h' => wpAny_pure h') fun _ _ h' => h')
  split
  · exact wpAny_bind (wpAny_pure (wpAny_pure (by exact fin)))
  · exact wpAny_tryCatch (wpAny_bind (wpAny_pure (wpAny_pure (by exact fin))))
/-- x != b by the class's own __eq__ -/
theorem ne_K {Q : Value → Shared → Prop} (hu : A.units + 1 < cLine) (F : Fr h₀ L s.heap m) (X₀ : K.In h₀) (I : InstAt s.heap x ox C od) (hb : Looks (model prog w) s.heap (typeOf b) tb) (hn : notFirst K C tb = true)
    (hne : findIn K (.ref C) "__ne__" = some (some (.builtin "object.__ne__"))) (ho : subIn K (.ref C) (.type "object") = some true) (hs : findIn K (.ref C) "__eq__" = some (some (.ref f))) (hf : isFn K (.ref f) = true)
    (h : wpAny (model prog w) A.in1 (call (.ref f) [.ref x, b]) (fun v s' => ∃ r, v = .bool r ∧ Q (.bool (!r)) s') E s) : wpAny (model prog w) A (richCompare .NotEq (.ref x) b) Q E s := by
  have X := X₀.keeps F.keep
  have body : wpAny (model prog w) A.in1 (Builtin.«object.__ne__» ⟨[.ref x, b], []⟩) (fun fin s' => ∃ v, fin = .done (.ret v) ∧ (v ≠ .notImplemented ∧ Q v s')) E s := by
    unfold Builtin.«object.__ne__»
    refine wpAny_bind (wpAny_pure ?_)
    refine wpAny_bind (wpAny_cRoomFor (A := A.in1) hu ?_)
    refine wpAny_bind (m := callSpecialIfBound? (.ref x) (Str.ofString "__eq__") [b]) (ifBound_K X I hs hf (wpAny_mono h (fun v s' hv => ?_) fun _ _ e => e))
    obtain ⟨r, rfl, q⟩ := hv
    refine wpAny_bind (wpAny_truthy_bool ?_)
    exact wpAny_pure ⟨_, rfl, (fun z => nomatch z), q⟩
  have one : wpAny (model prog w) A (tryCompare (.ref x) "__ne__" b) (fun r s' => ∃ v, r = some v ∧ Q v s') E s := by
    unfold tryCompare
    refine wpAny_bind (ifBound_B X I hne (PySem.F.cmp_object.ne.bind _) (wpAny_call (codeAny_call_builtin PySem.F.cmp_object.ne.plain PySem.F.cmpEntry_ne
      (check_slot PySem.F.cmpKind_ne PySem.F.cmpSplit_ne (I.type.andThen (looks_subIn X ho)) (PySem.F.cmpArgs_ne _ _) ?_))))
    refine wpAny_mono body (fun fin s' hv => ?_) fun _ _ e => e
    obtain ⟨v, rfl, hn, q⟩ := hv
    cases v <;> first | exact absurd rfl hn | exact wpAny_pure ⟨_, rfl, q⟩
  unfold richCompare
  simp only [oneThing_ref]
  refine wpAny_holding (wpAny_bind (wpAny_cRoomFor (Nat.lt_of_succ_lt hu) ?_))
  refine wpAny_bind (I.type.here (wpAny_bind (hb.here ?_)))
  split
  · rename_i q
    have e : subIn K tb (.ref C) = some false := by
      rcases Bool.or_eq_true_iff.mp hn with e | e
      · rw [beq_iff_eq.mp e] at q; simp at q
      · exact beq_iff_eq.mp e
    refine wpAny_bind ((looks_subIn X e).here ?_)
    simp only [Bool.false_eq_true, if_false]
    refine wpAny_bind (wpAny_mono one (fun r s' z => ?_) fun _ _ e => e)
    obtain ⟨v, rfl, hq⟩ := z
    exact wpAny_pure hq
  · refine wpAny_bind (wpAny_pure ?_)
    simp only [Bool.false_eq_true, if_false]
    refine wpAny_bind (wpAny_mono one (fun r s' z => ?_) fun _ _ e => e)
    obtain ⟨v, rfl, hq⟩ := z
    exact wpAny_pure hq
end
end PySem.W
namespace Ly
open PySem L2 PySem.Spec PyProof.Rows
/-- what an own __eq__ of class C is known to do -/
structure Eqs (P : Program) (w : World) (K : PySem.W.Frag) (mg : Str → Option Value) (base : Heap) (k : Nat) (C : Addr) (sp : Sp) : Prop where
  ex : ∃ (f : Addr) (fd : FuncData) (ps : List Str), Cls K C ∧ Meth K C "__eq__" f ∧ FnOk P w K mg base CX0 k f fd ps sp ∧ Binds K fd ps [] ∧
    PySem.W.findIn K (.ref C) "__ne__" = some (some (.builtin "object.__ne__")) ∧ PySem.W.subIn K (.ref C) (.type "object") = some true
/-- two instances of C, told equal or not by the promise -/
def rOwn (C : Addr) (sp : Sp) (neg : Bool) : R2 := fun x y H Q => ∃ a b dx dy fs gs, x = .ref a ∧ y = .ref b ∧ H a = some (.ins C dx fs) ∧ H b = some (.ins C dy gs) ∧ sp [x, y] H (fun v H' => ∃ r, v = .bl r ∧ Q (.bl (r != neg)) H') E0
section
variable {X : Cx} {C : Addr} {sp : Sp} {k : Nat}
theorem own_run {A : Around} {pins : List (Addr × Obj)} {s : Shared} {σ : L2.St} {H : Hp} {a b f : Addr} {fd : FuncData} {ps : List Str} {R : VK} (sr : Room k A) (sf : A.frames = X.A.frames) (I : Inv X pins σ H s) (F : FnOk X.prog X.w X.K X.mg X.base CX0 k f fd ps sp) (hb : Binds X.K fd ps [])
    (hsp : sp [.ref a, .ref b] H R E0) : wpAny (model X.prog X.w) A (call (.ref f) [.ref a, .ref b]) (fun v s' => ∃ z H', Inv X pins σ H' s' ∧ RelV z v ∧ R z H') X.xe s := by
  have e0 : Env0 X.prog X.w X.K X.mg X.base A X.stack s H := by
    have e := I.env0
    exact ⟨by rw [sf]; exact e.frames, e.mod, e.bs, e.bsz, e.funs, e.frf, e.hok, e.bare⟩
  have hl := F.len _ _ _ _ hsp
  have r2 : Vals [V.ref a, V.ref b] [Value.ref a, Value.ref b] := .cons rfl (.cons rfl .nil)
  refine wpAny_call (codeAny_mono (F.run A X.stack s H ⟨[.ref a, .ref b], []⟩ [.ref a, .ref b] [.ref a, .ref b] R E0 sr e0 (by
    have := hb s [.ref a, .ref b] I.kIn (by simpa using hl)
    simpa using this) r2 hsp) fun r s' hq => ?_)
  cases r with
  | error e => exact False.elim hq
  | ok fl =>
    cases fl with
    | ret w =>
      obtain ⟨z, H', I', rz, ez⟩ := I.after hq
      exact ⟨z, H', I', rz, ez⟩
    | next => exact False.elim hq
    | brk => exact False.elim hq
    | cont => exact False.elim hq
theorem op_ownE {j : Nat} (c : Eqs X.prog X.w X.K X.mg X.base k C sp) (hr : Room j X.A) (hk : k ≤ j) : OpR X (compareOp .Eq) (rOwn C sp false) := by
  intro pins s σ H x y u v Q I rx ry h
  obtain ⟨a, b, dx, dy, fs, gs, rfl, rfl, ha, hb', hsp⟩ := h
  cases rx
  cases ry
  obtain ⟨f, fd, ps, c1, c2, F, hb, _, _⟩ := c.ex
  obtain ⟨mA, J, _⟩ := ins_get I.hok ha
  obtain ⟨mB, J', _⟩ := ins_get I.hok hb'
  obtain ⟨od, J, _⟩ := J.look
  obtain ⟨od', J', _⟩ := J'.look
  obtain ⟨m, hF⟩ := I.fr
  show wpAny (model X.prog X.w) X.A (richCompare .Eq (.ref a) (.ref b)) _ _ s
  refine PySem.W.cmp_K (op := .Eq) (tb := .ref C) hr.units0 hF I.ok.mod.kin J J'.type (by simp [PySem.W.notFirst]) c2.at_ c2.fn ?_
  refine wpAny_mono (own_run (hr.mono hk) rfl I F hb hsp) (fun v s' q => ?_) fun _ _ e => e
  obtain ⟨z, H', I', rz, r, rfl, q⟩ := q
  cases rz
  exact ⟨.bl r, H', I', rfl, by rw [Bool.bne_false] at q; exact q⟩
theorem op_ownN {j : Nat} (c : Eqs X.prog X.w X.K X.mg X.base k C sp) (hr : Room (j + 1) X.A) (hk : k ≤ j) : OpR X (compareOp .NotEq) (rOwn C sp true) := by
  intro pins s σ H x y u v Q I rx ry h
  obtain ⟨a, b, dx, dy, fs, gs, rfl, rfl, ha, hb', hsp⟩ := h
  cases rx
  cases ry
  obtain ⟨f, fd, ps, c1, c2, F, hb, hne, ho⟩ := c.ex
  obtain ⟨mA, J, _⟩ := ins_get I.hok ha
  obtain ⟨mB, J', _⟩ := ins_get I.hok hb'
  obtain ⟨od, J, _⟩ := J.look
  obtain ⟨od', J', _⟩ := J'.look
  obtain ⟨m, hF⟩ := I.fr
  show wpAny (model X.prog X.w) X.A (richCompare .NotEq (.ref a) (.ref b)) _ _ s
  refine PySem.W.ne_K (tb := .ref C) hr.in1.units0 hF I.ok.mod.kin J J'.type (by simp [PySem.W.notFirst]) hne ho c2.at_ c2.fn ?_
  refine wpAny_mono (own_run (A := X.A.in1) (hr.in1.mono hk) rfl I F hb hsp) (fun v s' q => ?_) fun _ _ e => e
  obtain ⟨z, H', I', rz, r, rfl, q⟩ := q
  cases rz
  exact ⟨r, rfl, .bl (!r), H', I', rfl, by rw [Bool.bne_true] at q; exact q⟩
end
end Ly
end
section
set_option Elab.async false
set_option linter.all false
set_option maxRecDepth 100000
set_option maxHeartbeats 2000000
set_option autoImplicit false
namespace Ly
open PySem L2 PySem.Spec PyProof.Rows
/-! ### rules with the written part named -/
section
variable {X : Cx} {K : PySem.W.Frag} {e e2 : Expr} {es elts : List Expr} {te : TE} {ta tk : TA} {p pos tpos : Pos} {kk : Nat} {kws : List Keyword} {C : Addr} {sp : Sp} {k j : Nat}
theorem x_enum (hg : Gl X "enumerate") (hm : X.mg "enumerate" = none) (ha : PA X [e] ta) (h : X.K = K := by rfl) (hs : starEach [e] X.env = [(false, eval e X.env)] := by rfl) :
    PI X (.Tuple elts kk tpos) (.Call (.Name "enumerate" p) [e] [] pos) (iEnumU K ta) := h ▸ pi_enumU hg hm ha hs
theorem x_zip (hg : Gl X "zip") (hm : X.mg "zip" = none) (ha : PA X [e, e2] ta) (h : X.K = K := by rfl)
    (hs : starEach [e, e2] X.env = (false, eval e X.env) :: starEach [e2] X.env := by rfl) (hpl : (backTo pos (starEach [e2] X.env)).any (·.1) = false := by rfl) :
    PI X (.Tuple elts kk tpos) (.Call (.Name "zip" p) [e, e2] [] pos) (iZipU K ta) := h ▸ pi_zipU hg hm ha hs hpl
theorem x_zipK (hg : Gl X "zip") (hm : X.mg "zip" = none) (ha : PA X [e, e2] ta) (hk : PK X kws tk) (h : X.K = K := by rfl)
    (he : starEach [e, e2] X.env = (false, eval e X.env) :: starEach [e2] X.env := by rfl) (hpl : (backTo pos (starEach [e, e2] X.env)).any (·.1) = false := by rfl)
    (hall : (backToKw pos (keywordEach kws X.env)).all (·.1.isSome) = true := by rfl) (hnone : (backToKw pos (keywordEach kws X.env)).any (·.1.isNone) = false := by rfl) (hks : (backToKw pos (keywordEach kws X.env)).filterMap (·.1) = [Str.ofString "strict"] := by rfl) :
    PI X (.Tuple elts kk tpos) (.Call (.Name "zip" p) [e, e2] kws pos) (iZipE K ta tk) := h ▸ pi_zipE hg hm ha hk he hpl hall hnone hks
theorem x_sorted (hu : X.A.units + 64 < cLine) (h : X.K = K := by rfl) : CallR X (.builtin "sorted") (rSortD K false) := h ▸ cr_sortD hu
theorem x_sortedK {rev : Bool} (hu : X.A.units + 64 < cLine) (h : X.K = K := by rfl) : CallRK X (.builtin "sorted") [Str.ofString "reverse"] (rSortDK K rev) := h ▸ cr_sortDK hu
theorem pe_sortedR (hu : X.A.units + 64 < cLine) (hg : Gl X "sorted") (hm : X.mg "sorted" = none) (ha : PA X (e :: es) ta) (hk : PK X kws tk) (h : X.K = K := by rfl)
    (he : backTo pos (starEach (e :: es) X.env) = (false, eval e X.env) :: backTo pos (starEach es X.env) := by rfl) (hpl : (backTo pos (starEach (e :: es) X.env)).any (·.1) = false := by rfl)
    (hall : (backToKw pos (keywordEach kws X.env)).all (·.1.isSome) = true := by rfl) (hnone : (backToKw pos (keywordEach kws X.env)).any (·.1.isNone) = false := by rfl) (hks : (backToKw pos (keywordEach kws X.env)).filterMap (·.1) = [Str.ofString "reverse"] := by rfl) :
    PE X (.Call (.Name "sorted" p) (e :: es) kws pos) (tCKw (rSortDK K true) ta tk) := pe_callBK (x_sortedK hu h) hg hm (by decide +kernel) ha hk (by decide) (by decide) he hpl hall hnone hks
end

/-! ### tuple.index of an int -/
def rIdxT (K : PySem.W.Frag) : V → List V → Hp → VK → Prop := fun x xs H Q => ∃ (p : Addr) (ys : List Int) (z : Int) (j : Nat), x = .ref p ∧ xs = [.int z] ∧ SqT K H p (ys.map V.int) ∧ ys[j]? = some z ∧ (∀ m, m < j → ys[m]? ≠ some z) ∧ Q (.int (j : Nat)) H
theorem flat_ints (ys : List Int) : (ys.map V.int).all flatV = true := by
  rw [List.all_map]
  exact List.all_eq_true.mpr fun _ _ => rfl
theorem mt_idxT {X : Cx} : MtR X "tuple.index" (rIdxT X.K) := by
  intro pins s σ H x xs v us Q I rx rs h
  obtain ⟨p, ys, z, j, rfl, rfl, hq, hy, hno, q⟩ := h
  cases rx
  obtain ⟨u, rfl, ru⟩ := vals1 rs
  obtain ⟨its, r, pl, hz⟩ := I.tuple hq
  obtain ⟨⟨cls, dd, dt, sl⟩, ho, hc, n, hd⟩ := pl
  simp only at hc hd
  subst hc
  subst hd
  have hl : its.toArray.size = ys.length := by rw [List.size_toArray, ← r.length, List.length_map]
  have hj : j < its.toArray.size := by rw [hl]; exact (List.getElem?_eq_some_iff.mp hy).1
  have at' : ∀ (m : Nat) (hm : m < its.toArray.size), ∃ y, ys[m]? = some y ∧ RelV (.int y) its.toArray[m] := fun m hm => by
    have hm' : m < ys.length := by rw [← hl]; exact hm
    obtain ⟨w, hw, hw'⟩ := r.get (i := m) (x := .int ys[m]) (by simp [hm'])
    refine ⟨ys[m], List.getElem?_eq_getElem hm', ?_⟩
    have e := (List.getElem?_eq_some_iff.mp hw).2
    have e2 : its.toArray[m] = w := by simpa using e
    rw [e2]
    exact hw'
  refine call_meets PySem.F.slot_tuple_index ⟨_, ho, rfl⟩ PySem.F.entry_tuple_index (PySem.F.args_tuple_index_2 _ _) (TI.tuple_indexAt p its.toArray n dd sl u (eqU (.int z)) j hj ?_ ?_)
    ⟨ho, fun w hw => mem_eqAt (x := .int z) ru rfl r (flat_ints ys) w (by simpa using hw), ⟨.int (j : Nat), H, I.tok _, ⟨_, rfl⟩, q⟩⟩
  · obtain ⟨y, h1, h2⟩ := at' j hj
    rw [hy] at h1
    cases h1
    rw [eqU_of h2 rfl]
    show (z == z) = true
    exact beq_self_eq_true z
  · intro m hm hmj
    obtain ⟨y, h1, h2⟩ := at' m hm
    rw [eqU_of h2 rfl]
    show (y == z) = false
    have := hno m hmj
    rw [h1] at this
    exact beq_eq_false_iff_ne.mpr fun q => this (by rw [q])
theorem x_idxT {X : Cx} {K : PySem.W.Frag} (h : X.K = K := by rfl) : MtR X "tuple.index" (rIdxT K) := h ▸ mt_idxT

section
variable {K : PySem.W.Frag} {Z : Zn} {H0 H1 : Hp} {L L' : Own} {Γ Γ' : Gam} {σ : L2.St} {H H' : Hp}
variable {W W' W1 W2 : Hp → Addr → Prop} {te ta tb : TE} {tt tu : TT} {P P1 P2 : Dt → Prop} {d e f : Dt} {D : Ends} {tz ts ts' : TS} {ds es : List Dt} {PL : List Dt → Prop}
/-! ### operations -/
theorem rr_mulZ {k : Int} (h0 : 0 ≤ k) (h1 : k ≤ 1000) : RR K (rMulV K) (.tup [.int 0]) (.int k) (Eq (.tup (List.replicate k.toNat (.int 0)))) := RR.r fun M H x y hx hy Q q => by
  cases hy
  cases hx with
  | tup hx lx =>
    rename_i a xs
    have hl := lx.length
    have e : (List.replicate k.toNat [Dt.int 0]).flatten = List.replicate k.toNat (.int 0) := by
      induction k.toNat with
      | zero => rfl
      | succ n ih => rw [List.replicate_succ, List.replicate_succ, List.flatten_cons, ih]; rfl
    refine ⟨a, k, xs, rfl, rfl, hx, fun z => by rw [z] at hl; exact absurd hl (by decide), h0, h1, by rw [← hl]; decide, fun z => ?_, fun _ p hp => ?_⟩
    · subst z
      exact q _ _ H rfl (Ex.refl H) (.tup hx (immL_any (ds := [.int 0]) (fun d hd => by rw [List.mem_singleton.mp hd]; exact inferInstance) _ _ _ _ _ lx))
    · refine q _ _ _ rfl (Ex.new hp) (.tup (SqT.of upd_same) ?_)
      rw [← e]
      exact immL_any (ds := (List.replicate k.toNat [Dt.int 0]).flatten) (fun d hd => by
        rw [e] at hd
        rw [List.eq_of_mem_replicate hd]
        exact inferInstance) _ _ _ _ _ ((isl_rep lx k.toNat).mono (Gm.new hp))
theorem rr_own {C : Addr} {neg : Bool} {α : Type} {args : α → List Dt} {pre : α → Prop} {post : α → Dt → Prop} {fs gs : List (Str × Dt)} {r : Bool} (x : α) (ha : args x = [.ins C fs, .ins C gs]) (hp : pre x) (hq : ∀ d, post x d → d = .bl r) :
    RR K (rOwn C (spP K args pre post) neg) (.ins C fs) (.ins C gs) (Eq (.bl (r != neg))) := fun M H u v hu hv Q k => by
  cases hu with
  | ins e1 l1 =>
    cases hv with
    | ins e2 l2 =>
      refine ⟨_, _, _, _, _, _, rfl, rfl, e1, e2, x, hp, ?_, fun d v H' p ex i => ?_⟩
      · rw [ha]
        exact (IsL.cons (.ins e1 l1) (.cons (.ins e2 l2) .nil)).weak fun _ q => q.elim
      · rw [hq d p] at i
        cases i
        exact ⟨r, rfl, k _ _ H' rfl ex (.bl _)⟩
/-! ### calls with keywords -/
theorem ev_sortR [w : Wd K Z L W] {rev : Bool} {rows : List (List Int)} {ta tk : TA} (h : EVA K Z H0 L Γ (wW Z) ta (Eq [.lst (rows.map rowD)])) (hk : EVA K Z H0 L Γ (wW Z) tk (Eq [.bl rev])) (hne : ∀ r ∈ rows, r ≠ []) : EV K Z H0 L Γ W (tCKw (rSortDK K rev) ta tk) (Eq (.lst ((sortR rev rows).map rowD))) := fun σ H a Q k =>
  h σ H a _ fun ds vs H1 p g j x => hk σ H1 (a.step g j) _ fun zs ws H2 pz gz jz xz => by
    subst p pz
    cases xz with
    | cons xz l =>
      cases l
      cases xz
      exact ⟨rfl, rc_sortR hne Z.M H2 vs (x.mono gz) Q fun f v H3 p e i => fin_ex a (g.trans gz) jz e i p k⟩
/-! ### isinstance(x, (A, B)) of built-in classes -/
theorem ea_tys : ∀ {ns : List String} {tr : TA} {W : Hp → Addr → Prop}, (EVA K Z H0 L Γ W tr (Eq (ns.map Dt.ty))) → EVA K Z H0 L Γ W tr (Eq (ns.map Dt.ty)) := fun h => h
theorem is_tys {M : Addr → Prop} : ∀ {ns : List String} {vs : List V}, IsL K M H (ns.map Dt.ty) vs → vs = ns.map V.ty
  | [], _, h => by cases h; rfl
  | n :: ns, _, h => by
    cases h with
    | cons h l =>
      cases h
      rw [is_tys l]
      rfl
theorem kit_tys {c : String} : ∀ {ns : List String}, (∀ n ∈ ns, (kitB c n).isSome = true) → PySem.W.kitAny K (.type c) (ns.map Value.type) = some (ns.any fun n => kitB c n == some true)
  | [], _ => rfl
  | n :: ns, h => by
    have h1 := h n (List.mem_cons_self ..)
    obtain ⟨b, hb⟩ := Option.isSome_iff_exists.mp h1
    rw [List.map_cons, List.any_cons, hb]
    refine kitAny_cons (kit_ty hb) (fun q => ?_) fun q => ?_
    · subst q
      rw [kit_tys fun m hm => h m (List.mem_cons_of_mem _ hm)]
      rfl
    · subst q
      rfl
theorem paired_tys : ∀ ns : List String, Paired ClsV (ns.map V.ty) (ns.map Value.type)
  | [] => .nil
  | n :: ns => .cons (.ty n) (paired_tys ns)
theorem ev_isiT [w : Wd K Z L W] {c : String} {ns : List String} {tx : TE} {tr : TA} (h : EV K Z H0 L Γ (wW Z) tx (Eq d)) (hc : d.cls = some c) (hr : EVA K Z H0 L Γ (wW Z) tr (Eq (ns.map Dt.ty))) (hn : ns.length ≤ 100 := by decide) (hk : ∀ n ∈ ns, (kitB c n).isSome = true := by decide +kernel) :
    EV K Z H0 L Γ W (tCB (rIsiT K) (tCons tx (tCons (tTup tr) tNil))) (Eq (.bl (ns.any fun n => kitB c n == some true))) := fun σ H a Q k =>
  h σ H a _ fun d' x H1 p1 g1 j1 i1 => by
    subst p1
    have a1 := a.step g1 j1
    refine hr σ H1 a1 _ fun ds vs H2 p2 g2 j2 i2 => ?_
    subst p2
    have e := is_tys i2
    subst e
    have a2 := a1.step g2 j2
    refine ⟨by rw [List.length_map]; exact Nat.le_trans hn (by decide), fun q hq => ?_⟩
    obtain ⟨g3, j3⟩ := a2.ex (Ex.new (p := q) (o := .tup (ns.map V.ty)) hq)
    exact ⟨x, q, ns.map V.ty, .type c, ns.map Value.type, _, rfl, upd_same, paired_tys ns, ((i1.mono g2).mono g3).tyx hc, kit_tys hk, k _ _ _ rfl ((g1.trans g2).trans g3) j3 (.bl _)⟩
/-! ### statements -/
theorem q_while {β : Type} {I : Nat → β → Prop} {Lf : Nat → β → Own} {Γf : Nat → β → Gam} {B : Nat → β → Bool → Prop} {m0 : Nat} {b0 : β}
    (a : At K Z H0 L Γ σ H) (hL : ∀ m b, (Lf m b).map (·.1) = L.map (·.1)) (h0 : I m0 b0) (hL0 : Lf m0 b0 = L) (hΓ : Less Γ (Γf m0 b0))
    (ht : ∀ m b, I m b → ∀ H1, Gm (Mt Z L) H0 H1 → EVT K Z H1 (Lf m b) (Γf m b) tt (B m b))
    (hs : ∀ m b, I m b → B m b true → ∀ H1, Gm (Mt Z L) H0 H1 → ∀ σ' H', At K Z H1 (Lf m b) (Γf m b) σ' H' → ∀ N : L2.St → Hp → Prop,
      (∀ m2 b2 σ2 H2, m2 < m → I m2 b2 → At K Z H1 (Lf m2 b2) (Γf m2 b2) σ2 H2 → N σ2 H2) → ts { D with nx := N, ct := N, bk := tz D } σ' H')
    (hd : ∀ m b, I m b → B m b false → ∀ σ' H', At K Z H0 (Lf m b) (Γf m b) σ' H' → tz D σ' H') : tSeq (tWhile tt ts) tz D σ H := by
  have g01 : Gm (Mt Z L) H0 H := a.go
  have mt : ∀ m b c, Mt Z (Lf m b) c ↔ Mt Z L c := fun m b c => by unfold Mt; rw [hL]
  refine ⟨fun m σ' H' => ∃ b, I m b ∧ At K Z H (Lf m b) (Γf m b) σ' H', ⟨m0, b0, h0, ?_⟩, fun m σ' H' q => ?_⟩
  · rw [hL0]
    exact (a.here).less hΓ
  · obtain ⟨b, i, a2⟩ := q
    refine ht m b i H g01 σ' H' a2 _ fun r H2 pr g j => ?_
    have a3 := a2.step g j
    cases r with
    | true =>
      rw [if_pos rfl]
      exact ⟨fun σ'' H'' => ∃ m2 b2, m2 < m ∧ I m2 b2 ∧ At K Z H (Lf m2 b2) (Γf m2 b2) σ'' H'', fun σ'' H'' ⟨m2, b2, e1, e2, e3⟩ => ⟨m2, e1, b2, e2, e3⟩, hs m b i pr H g01 σ' H2 a3 _ fun m2 b2 σ2 H2 e1 e2 e3 => ⟨m2, b2, e1, e2, e3⟩⟩
    | false =>
      rw [if_neg Bool.false_ne_true]
      exact hd m b i pr σ' H2 (a3.base (g01.weak fun c m => (mt _ _ c).mpr m))
theorem q_augI {i : Nat} {x y : Int} {f : Int → Int → Int} (a : At K Z H0 L Γ σ H) (hx : Γ[i]? = some (some (.int x))) (h : EV K Z H0 L Γ (wW Z) te (Eq (.int y))) (k : ∀ σ' H', At K Z H0 L (Γ.set i (some (.int (f x y)))) σ' H' → tz D σ' H') : tSeq (tAug i te (ipI f)) tz D σ H := by
  obtain ⟨v, e1, e2⟩ := a.env i _ hx
  cases e2
  refine ⟨_, e1, h σ H a _ fun d v H' p g j x => ?_⟩
  subst p
  cases x
  exact ⟨_, _, rfl, rfl, k _ H' ((a.step g j).set i (.int _))⟩
/-- found.append(x), found an own list -/
theorem q_append {i n : Nat} {l : Addr} (a : At K Z H0 L Γ σ H) (hi : Γ[i]? = some (some (.raw (.ref l)))) (hn : L[n]? = some (l, ds)) (hd : ImmL ds) (hz : ds.length ≤ 100000) (h : EV K Z H0 L Γ (wS Z L) te P) (hP : ∀ d, P d → Imm d)
    (k : ∀ d, P d → ∀ σ' H', At K Z H0 (L.set n (l, ds ++ [d])) Γ σ' H' → tz D σ' H') : tSeq (tDrop (tBM K "list" rAppend (tVar i) (tCons te tNil))) tz D σ H := by
  obtain ⟨v, e1, e2⟩ := a.env i _ hi
  cases e2
  obtain ⟨xs, h1, h2, h3⟩ := a.own _ (List.mem_of_getElem? hn)
  refine ⟨_, e1, .inl ⟨rfl, xs, SqL.of h1⟩, h σ H a _ fun d v H' p g j x => ?_⟩
  have a1 := a.step g j
  obtain ⟨xs', h1', h2', h3'⟩ := a1.own _ (List.mem_of_getElem? hn)
  have hl := h2'.length
  refine ⟨l, xs', v, rfl, rfl, h1', ?_, ?_⟩
  · rw [← hl]; exact Nat.lt_of_le_of_lt hz (by decide)
  · exact k d p _ _ (a1.own_put hn (h2'.append (.one x)) ⟨fun e he => (List.mem_append.mp he).elim (hd.all e) fun q => by rw [List.mem_singleton.mp q]; exact hP d p⟩)
/-- found.extend(xs): xs a list made there -/
theorem q_extend {i n : Nat} {l : Addr} (a : At K Z H0 L Γ σ H) (hi : Γ[i]? = some (some (.raw (.ref l)))) (hn : L[n]? = some (l, ds)) (hd : ImmL ds) (h : EV K Z H0 L Γ (wS Z L) te (Eq (.lst es))) (he : ImmL es) (hz : ds.length + es.length ≤ 100000)
    (k : ∀ σ' H', At K Z H0 (L.set n (l, ds ++ es)) Γ σ' H' → tz D σ' H') : tSeq (tDrop (tBM K "list" rExtend (tVar i) (tCons te tNil))) tz D σ H := by
  obtain ⟨v, e1, e2⟩ := a.env i _ hi
  cases e2
  obtain ⟨xs, h1, h2, h3⟩ := a.own _ (List.mem_of_getElem? hn)
  refine ⟨_, e1, .inl ⟨rfl, xs, SqL.of h1⟩, h σ H a _ fun d v H' p g j x => ?_⟩
  subst p
  have a1 := a.step g j
  obtain ⟨xs', h1', h2', h3'⟩ := a1.own _ (List.mem_of_getElem? hn)
  have hl : ds.length = xs'.length := h2'.length
  cases x with
  | lst e nb le =>
    have hle := le.length
    refine ⟨l, _, xs', _, rfl, rfl, h1', e, len100 (by omega), ?_⟩
    exact k _ _ (a1.own_put hn (h2'.append le) inferInstance)
end
end Ly
end
section
set_option Elab.async false
set_option linter.all false
set_option maxRecDepth 100000
set_option maxHeartbeats 2000000
set_option autoImplicit false
namespace Ly
open PySem L2 PySem.Spec PyProof.Rows
/-- what isinstance and != ask of an own class -/
structure Isa (K : PySem.W.Frag) (C : Addr) : Prop where
  cl : Cls K C
  ha : PySem.W.findIn K (.ref C) "__class__" = some (some (.builtin "object.__class__"))
  hn : PySem.W.specialIn K (.builtin "object.__class__") "__get__" = some (some (.builtin "getset_descriptor.__get__"))
  tk : PySem.W.takesIn K (.builtin "object.__class__") = some true
  hm : PySem.W.mroIn K C (.type "object") = some true
section
variable {K : PySem.W.Frag} {P : Dt → Prop}
theorem rc_isiO {C : Addr} {fs : List (Str × Dt)} (i : Isa K C) : RC K (rIsi K) [.ins C fs, .raw (.ref C)] (Eq (.bl true)) := fun M H vs h Q k => by
  cases h with
  | cons h l =>
    cases l with
    | cons h2 l =>
      cases l
      cases h2
      cases h with
      | ins e l =>
        refine ⟨_, _, .ref C, .ref C, true, rfl, .own C, .base (.ins e i.cl i.ha i.hn i.tk i.hm), ?_, k _ _ H rfl (Ex.refl H) (.bl _)⟩
        unfold PySem.W.kitOne
        simp
end
end Ly
end
section
set_option Elab.async false
set_option linter.all false
set_option maxRecDepth 100000
set_option autoImplicit false
namespace Ly
open PySem L2
theorem eqv_row (r s : List Int) : PyData.eqv (rowD r).pd (rowD s).pd = decide (r = s) := by
  rw [pd_row, pd_row]
  show PyData.eqv (.tuple (r.map .int)) (.tuple (s.map .int)) = _
  rw [PyData.eqv]
  exact PySem.W.ked_eqvAll r s
theorem shaped_row (r : List Int) : SeqAt.shaped (rowD r).pd = true := by
  rw [pd_row]
  show SeqAt.shaped (.tuple (r.map .int)) = true
  simp [SeqAt.shaped, PyData.canLay0, PyData.depth, PySem.W.ke_canLayAll0, PySem.W.ke_depthAll]
section
variable {K : PySem.W.Frag} {r s : List Int}
theorem rr_eqR : RR K (rEqU K) (rowD r) (rowD s) (Eq (.bl (decide (r = s)))) := by
  have h := rr_eqD (K := K) (ok_row r) (ok_row s) (shaped_row r) (shaped_row s)
  rw [eqv_row] at h
  exact h
theorem rr_neR : RR K (rNeU K) (rowD r) (rowD s) (Eq (.bl (!decide (r = s)))) := by
  have h := rr_neD (K := K) (ok_row r) (ok_row s) (shaped_row r) (shaped_row s)
  rw [eqv_row] at h
  exact h
/-! lists of ints -/
abbrev lstD (r : List Int) : Dt := .lst (r.map .int)
theorem pdL_ints (r : List Int) : pdL (r.map .int) = r.map .int := by
  induction r with
  | nil => rfl
  | cons x r ih => exact congrArg (PyData.int x :: ·) ih
theorem okL_ints (r : List Int) : okL (r.map .int) = true := by
  induction r with
  | nil => rfl
  | cons x r ih => exact ih
theorem shaped_lst (r : List Int) : SeqAt.shaped (lstD r).pd = true := by
  show SeqAt.shaped (.list (pdL (r.map .int))) = true
  rw [pdL_ints]
  simp [SeqAt.shaped, PyData.canLay0, PyData.depth, PySem.W.ke_canLayAll0, PySem.W.ke_depthAll]
theorem eqv_lst (r s : List Int) : PyData.eqv (lstD r).pd (lstD s).pd = decide (r = s) := by
  show PyData.eqv (.list (pdL (r.map .int))) (.list (pdL (s.map .int))) = _
  rw [pdL_ints, pdL_ints, PyData.eqv]
  exact PySem.W.ked_eqvAll r s
theorem rr_eqLI : RR K (rEqU K) (lstD r) (lstD s) (Eq (.bl (decide (r = s)))) := by
  have h := rr_eqD (K := K) (d := lstD r) (e := lstD s) (okL_ints r) (okL_ints s) (shaped_lst r) (shaped_lst s)
  rw [eqv_lst] at h
  exact h
theorem rr_neLI : RR K (rNeU K) (lstD r) (lstD s) (Eq (.bl (!decide (r = s)))) := by
  have h := rr_neD (K := K) (d := lstD r) (e := lstD s) (okL_ints r) (okL_ints s) (shaped_lst r) (shaped_lst s)
  rw [eqv_lst] at h
  exact h
end
end Ly
end
section
set_option Elab.async false
set_option linter.all false
set_option maxRecDepth 100000
set_option maxHeartbeats 2000000
set_option autoImplicit false
namespace Ly
open PySem L2
/-- try: body / except ..: .., where the body raises nothing -/
theorem ps_tryN {X : Cx} {body : List Stmt} {h0 : ExceptHandler} {hs : List ExceptHandler} {t : TS} {pos : Pos} (hb : PSs X.nox body t) : PS X (.Try body (h0 :: hs) [] [] pos) (tThru t tNext) := ps_try_thru0 hb
theorem q_tryN {D : Ends} {t tz : TS} {σ : L2.St} {H : Hp} (h : t { D with nx := tz D } σ H) : tSeq (tThru t tNext) tz D σ H := h
end Ly
end
section
set_option Elab.async false
set_option linter.all false
set_option maxRecDepth 100000
set_option maxHeartbeats 2000000
set_option autoImplicit false
namespace Ly
open PySem L2
/-- a write of an instance that has the attributes ns leaves d as it is -/
class Off (ns : List Str) (d : Dt) : Prop where
  any : ∀ (K : PySem.W.Frag) (M : Addr → Prop) (H : Hp) (x C dx : Addr) (vs : List (Str × V)) (o : HO) (v : V), H x = some (.ins C dx vs) → vs.map (·.1) = ns → Is K M H d v → Is K M (upd H x o) d v
class OffL (ns : List Str) (ds : List Dt) : Prop where
  all : ∀ d ∈ ds, Off ns d
theorem IsF.names {K : PySem.W.Frag} {M : Addr → Prop} {H : Hp} : ∀ {fs : List (Str × Dt)} {vs : List (Str × V)}, IsF K M H fs vs → fs.map (·.1) = vs.map (·.1)
  | _, _, .nil => rfl
  | _, _, .cons h l => congrArg _ (IsF.names l)
section
variable {ns : List Str}
instance : Off ns .non := ⟨fun _ _ _ _ _ _ _ _ _ _ _ h => by cases h; exact .non⟩
instance (b : Bool) : Off ns (.bl b) := ⟨fun _ _ _ _ _ _ _ _ _ _ _ h => by cases h; exact .bl b⟩
instance (b : Int) : Off ns (.int b) := ⟨fun _ _ _ _ _ _ _ _ _ _ _ h => by cases h; exact .int b⟩
instance (b : Str) : Off ns (.str b) := ⟨fun _ _ _ _ _ _ _ _ _ _ _ h => by cases h; exact .str b⟩
instance (b : V) : Off ns (.raw b) := ⟨fun _ _ _ _ _ _ _ _ _ _ _ h => by cases h; exact .raw b⟩
instance : OffL ns [] := ⟨fun _ h => nomatch h⟩
instance (d : Dt) (ds : List Dt) [i : Off ns d] [j : OffL ns ds] : OffL ns (d :: ds) := ⟨fun e he => (List.mem_cons.mp he).elim (fun q => q ▸ i) (j.all e)⟩
instance {α : Type} (f : α → Dt) (xs : List α) [i : ∀ a, Off ns (f a)] : OffL ns (xs.map f) := ⟨fun e he => by
  obtain ⟨a, _, rfl⟩ := List.mem_map.mp he
  exact i a⟩
theorem offL {K : PySem.W.Frag} {M : Addr → Prop} {H : Hp} {x C dx : Addr} {vs : List (Str × V)} {o : HO} (hx : H x = some (.ins C dx vs)) (hn : vs.map (·.1) = ns) : ∀ {ds : List Dt} {us : List V}, (∀ d ∈ ds, Off ns d) → IsL K M H ds us → IsL K M (upd H x o) ds us
  | _, _, _, .nil => .nil
  | _, _, a, .cons h l => .cons ((a _ (List.mem_cons_self ..)).any K M H x C dx vs o _ hx hn h) (offL hx hn (fun d q => a d (List.mem_cons_of_mem _ q)) l)
theorem sqt_off {K : PySem.W.Frag} {H : Hp} {x C dx : Addr} {vs : List (Str × V)} {o : HO} (hx : H x = some (.ins C dx vs)) {a : Addr} {xs : List V} (h : SqT K H a xs) : SqT K (upd H x o) a xs := by
  have ne : ∀ {u : HO}, H a = some u → (∀ C dx vs, u ≠ .ins C dx vs) → a ≠ x := fun e n q => by
    rw [q, hx] at e
    exact n _ _ _ (Option.some.inj e).symm
  rcases h with (h | ⟨ob, h⟩) | h
  · exact .inl (.inl (by rw [upd_ne (ne h fun _ _ _ z => nomatch z)]; exact h))
  · exact .inl (.inr ⟨ob, by rw [upd_ne (ne h fun _ _ _ z => nomatch z)]; exact h⟩)
  · exact .inr h
instance (ds : List Dt) [j : OffL ns ds] : Off ns (.tup ds) := ⟨fun K M H x C dx vs o v hx hn h => by
  cases h with
  | tup h l => exact .tup (sqt_off hx h) (offL hx hn j.all l)⟩
instance (ds : List Dt) [j : OffL ns ds] : Off ns (.lst ds) := ⟨fun K M H x C dx vs o v hx hn h => by
  cases h with
  | lst h n l =>
    rename_i a xs
    refine .lst ?_ n (offL hx hn j.all l)
    rw [upd_ne (fun q => by rw [q, hx] at h; cases h)]
    exact h⟩
theorem off_ins {C : Addr} {fs : List (Str × Dt)} (hne : fs.map (·.1) ≠ ns) (h : ∀ K M H x C dx vs o us, H x = some (.ins C dx vs) → vs.map (·.1) = ns → IsF K M H fs us → IsF K M (upd H x o) fs us) : Off ns (.ins C fs) := ⟨fun K M H x C dx vs o v hx hn i => by
  cases i with
  | ins e l =>
    rename_i a dx2 us
    refine .ins (dx := dx2) ?_ (h K M H x _ _ _ o _ hx hn l)
    rw [upd_ne fun q => by
      rw [q, hx] at e
      cases e
      exact hne (l.names.trans hn)]
    exact e⟩
theorem offF_nil {K : PySem.W.Frag} {M : Addr → Prop} {H : Hp} {o : HO} {x : Addr} {us : List (Str × V)} (h : IsF K M H [] us) : IsF K M (upd H x o) [] us := by
  cases h
  exact .nil
theorem offF_cons {K : PySem.W.Frag} {M : Addr → Prop} {H : Hp} {x C dx : Addr} {vs : List (Str × V)} {o : HO} {n : Str} {d : Dt} {fs : List (Str × Dt)} [i : Off ns d] (hx : H x = some (.ins C dx vs)) (hn : vs.map (·.1) = ns) (ih : ∀ us, IsF K M H fs us → IsF K M (upd H x o) fs us) : ∀ us, IsF K M H ((n, d) :: fs) us → IsF K M (upd H x o) ((n, d) :: fs) us := fun us h => by
  cases h with
  | cons h l => exact .cons (i.any K M H x C dx vs o _ hx hn h) (ih _ l)
class OffG (ns : List Str) (Γ : Gam) : Prop where
  all : ∀ (i : Nat) (d : Dt), Γ[i]? = some (some d) → Off ns d
instance : OffG ns [] := ⟨fun i d h => by simp at h⟩
instance (Γ : Gam) [j : OffG ns Γ] : OffG ns (none :: Γ) := ⟨fun i d h => by
  cases i with
  | zero => cases h
  | succ i => exact j.all i d h⟩
instance (e : Dt) (Γ : Gam) [i : Off ns e] [j : OffG ns Γ] : OffG ns (some e :: Γ) := ⟨fun i d h => by
  cases i with
  | zero => cases h; assumption
  | succ i => exact j.all i d h⟩
theorem At.off {K : PySem.W.Frag} {H0 : Hp} {Γ : Gam} {σ : L2.St} {H : Hp} {x C dx : Addr} {vs : List (Str × V)} {o : HO} (a : At K z0 H0 [] Γ σ H) (hx : H x = some (.ins C dx vs)) (hn : vs.map (·.1) = ns) (h : OffG ns Γ) : At K z0 (upd H x o) [] Γ σ (upd H x o) := by
  refine ⟨Gm.refl _, trivial, (fun _ q => nomatch q), List.nodup_nil, a.len, fun i d e => ?_⟩
  obtain ⟨v, e1, e2⟩ := a.env i d e
  exact ⟨v, e1, (h.all i d e).any K _ H x C dx vs o v hx hn e2⟩
end
end Ly
end
section
set_option Elab.async false
set_option linter.all false
set_option maxRecDepth 100000
set_option maxHeartbeats 2000000
set_option autoImplicit false
namespace Ly
open PySem L2
section
variable {K : PySem.W.Frag} {Z : Zn} {H0 : Hp} {L : Own} {Γ : Gam} {σ : L2.St} {H : Hp} {d : Dt} {ds : List Dt} {D : Ends} {tz : TS}
/-- x, y = e, [..]: the second a list of one's own -/
theorem q_parO {i j : Nat} {ta : TA} (a : At K Z H0 L Γ σ H) (h : EVA K Z H0 L Γ wF ta (Eq [d, .lst ds])) (hd : Imm d) (hi : ImmL ds) (k : ∀ l σ' H', H0 l = none → At K Z H0 ((l, ds) :: L) ((Γ.set i (some d)).set j (some (.raw (.ref l)))) σ' H' → tz D σ' H') : tSeq (tPar i j ta) tz D σ H :=
  h σ H a _ fun es vs H' p g jj x => by
    subst p
    cases x with
    | cons x1 x =>
      cases x with
      | cons x2 x =>
        cases x
        cases x2 with
        | lst e n l =>
          rename_i v b xs
          have hl : H b = none := Classical.byContradiction n
          exact ⟨_, _, rfl, k b _ H' (a.base_none hl) (((a.own_new g jj hl e l hi).set i (hd.any _ _ _ _ _ x1)).set j (.raw _))⟩
end
end Ly
end
section
set_option Elab.async false
set_option linter.all false
set_option maxRecDepth 100000
set_option maxHeartbeats 2000000
set_option autoImplicit false
namespace Ly
open PySem L2
/-! ### a def whose arguments do not change: what its slots hold is new -/
def zfM (Hs : Hp) (b : Addr) : Prop := ∃ o, Hs b = some o ∧ ¬ Still o
def zf (Hs : Hp) : Zn := ⟨zfM Hs, fun H => ∀ b, zfM Hs b → H b = Hs b, fun H b j m => by
  obtain ⟨o, e, n⟩ := m
  exact ⟨o, (j b ⟨o, e, n⟩).trans e, n⟩, fun H H' j e b m => (e b m).trans (j b m)⟩
section
variable {K : PySem.W.Frag} {H0 : Hp} {L : Own} {Γ : Gam} {σ : L2.St} {H : Hp} {d : Dt} {ds : List Dt} {D : Ends} {tz : TS} {P : Dt → Prop} {te : TE}
theorem at_startF {vs : List V} (h : IsL K (fun _ => False) H ds vs) (hi : ImmL ds) (N : List Str) (hl : ds.length ≤ N.length) : At K (zf H) H [] (ds.map some ++ List.replicate (N.length - ds.length) none) (L2.start N vs) H := by
  have a := at_start h N hl
  refine ⟨Gm.refl H, fun _ _ => rfl, (fun _ q => nomatch q), List.nodup_nil, a.len, fun i d e => ?_⟩
  obtain ⟨v, e1, e2⟩ := a.env i d e
  have im : Imm d := by
    by_cases hi' : i < ds.length
    · rw [List.getElem?_append_left (by rw [List.length_map]; exact hi'), List.getElem?_map] at e
      cases q : ds[i]? with
      | none => rw [q] at e; cases e
      | some d' =>
        rw [q] at e
        have := Option.some.inj (Option.some.inj e)
        subst this
        exact hi.all d' (List.mem_of_getElem? q)
    · rw [List.getElem?_append_right (by rw [List.length_map]; omega), List.getElem?_replicate] at e
      split at e <;> cases e
  exact ⟨v, e1, im.any _ _ _ _ _ e2⟩
theorem at_begF {vs : List V} {N : List Str} (h : IsL K (fun _ => False) H ds vs) (hi : ImmL ds) (hG : ds.map some ++ List.replicate (N.length - ds.length) none = Γ) (hl : Nat.ble ds.length N.length = true) : At K (zf H) H [] Γ (L2.start N vs) H := hG ▸ at_startF h hi N (Nat.le_of_ble_eq_true hl)
theorem At.exF (a : At K (zf H0) H0 L Γ σ H) (fr : ∀ p ∈ L, H0 p.1 = none) : Ex H0 H := fun b o e => by
  by_cases q : Still o
  · exact a.go b o e fun _ => q
  · exact (a.j b ⟨o, e, q⟩).trans e
theorem q_retF (a : At K (zf H0) H0 L Γ σ H) (fr : ∀ p ∈ L, H0 p.1 = none) (h : EV K (zf H0) H0 L Γ (wW (zf H0)) te P) (k : Kp K H0 P D.rt) : tSeq (tRet te) tz D σ H :=
  h σ H a _ fun d v H' p g j x => by
    have a1 := a.step g j
    have e0 := a1.exF fr
    refine k d v H' p e0 (x.zone fun b o e m n => ?_)
    cases q : H0 b with
    | none => exact absurd q m
    | some o' =>
      refine ⟨o', q, fun s => n ?_⟩
      have := e0 b o' q
      rw [e] at this
      rw [Option.some.inj this]
      exact s
end
end Ly
end
section
set_option Elab.async false
set_option linter.all false
set_option maxRecDepth 100000
set_option maxHeartbeats 2000000
set_option autoImplicit false
namespace Ly
open PySem L2
abbrev ks (x : Str) : Key := .inr x
section
variable {K : PySem.W.Frag} {Z : Zn} {H0 H1 : Hp} {L : Own} {Γ : Gam} {σ : L2.St} {H H' : Hp}
variable {W : Hp → Addr → Prop} {te ti : TE} {d : Dt} {fs : List (Key × Dt)}
def dlk (fs : List (Key × Dt)) (k : Key) : Option Dt := (fs.find? fun kv => decide (kv.1 = k)).map (·.2)
theorem IsK.val {M : Addr → Prop} {k : Key} : ∀ {fs : List (Key × Dt)} {vs : List (Key × V)}, IsK K M H fs vs → dlk fs k = some d → ∃ v, valV vs k = some v ∧ Is K M H d v
  | _, _, .nil, h => by cases h
  | _, _, .cons (n := m) x l, h => by
    unfold dlk at h
    rw [List.find?_cons] at h
    by_cases q : m = k
    · subst q
      rw [decide_eq_true rfl] at h
      have := Option.some.inj h
      subst this
      exact ⟨_, valV_pos rfl, x⟩
    · rw [decide_eq_false q] at h
      obtain ⟨v, e1, e2⟩ := IsK.val l h
      exact ⟨v, (valV_neg q).trans e1, e2⟩
theorem ev_dget [w : Wd K Z L W] {x : Str} (h : EV K Z H0 L Γ (wW Z) te (Eq (.dct fs))) (hi : EV K Z H0 L Γ (wW Z) ti (Eq (.str x))) (hl : dlk fs (ks x) = some d) [i : Imm d] : EV K Z H0 L Γ W (tDGet te ti) (Eq d) := fun σ H a Q k =>
  h σ H a _ fun d1 v1 H1 p1 g1 j1 i1 => hi σ H1 (a.step g1 j1) _ fun d2 v2 H2 p2 g2 j2 i2 => by
    subst p1 p2
    cases i2
    have i1 := i1.mono g2
    cases i1 with
    | dct e n l =>
      obtain ⟨v, e1, e2⟩ := l.val hl
      refine ⟨_, v, rfl, ?_, k d v H2 rfl (g1.trans g2) j2 (i.any _ _ _ _ _ e2)⟩
      have := DGet.k (k := ks x) e
      rw [e1] at this
      exact this
/-! ### {k: v, ..} -/
def EVP (K : PySem.W.Frag) (Z : Zn) (H0 : Hp) (L : Own) (Γ : Gam) (trs : List (TE × TE)) (fs : List (Key × Dt)) : Prop :=
  ∀ σ H, At K Z H0 L Γ σ H → ∀ Q : List (V × V) → Hp → Prop, (∀ kvs H', IsK K (fun b => H b ≠ none) H' fs kvs → kvs.map (·.1) = fs.map (·.1) → Gm Z.M H H' → Z.J H' → Q (kvs.map fun kv => (kV kv.1, kv.2)) H') → tPairs trs σ H Q
theorem ep_nil : EVP K Z H0 L Γ [] [] := fun σ H a Q k => k [] H .nil rfl (Gm.refl H) a.j
theorem ep_cons {x : Str} {tv : TE} {trs : List (TE × TE)} (h1 : EV K Z H0 L Γ wF ti (Eq (.str x))) (h2 : EV K Z H0 L Γ wF tv (Eq d)) (hr : EVP K Z H0 L Γ trs fs) : EVP K Z H0 L Γ ((ti, tv) :: trs) ((ks x, d) :: fs) := fun σ H a Q k =>
  h1 σ H a _ fun d1 v1 H1 p1 g1 j1 i1 => h2 σ H1 (a.step g1 j1) _ fun d2 v2 H2 p2 g2 j2 i2 => hr σ H2 (a.step (g1.trans g2) j2) _ fun kvs H3 i3 e3 g3 j3 => by
    subst p1 p2
    cases i1
    have a1 := a.step g1 j1
    have up1 : ∀ b, H b ≠ none → H1 b ≠ none := fun b m => (inferInstance : Wd K Z L wF).up a g1 j1 m
    have up2 : ∀ b, H b ≠ none → H2 b ≠ none := fun b m => (inferInstance : Wd K Z L wF).up a (g1.trans g2) j2 m
    have nz : ∀ b, Z.M b → H b ≠ none := fun b m => a.ne (mt_z m)
    refine k ((ks x, v2) :: kvs) H3 (.cons ((i2.weak up1).mono (g3.weak nz)) (i3.zone fun b _ _ m _ => up2 b m)) ?_ ((g1.trans g2).trans g3) j3
    rw [List.map_cons, List.map_cons, e3]
theorem merge_app : ∀ {more acc : List (Key × V)}, ((acc ++ more).map (·.1)).Nodup → mergeK acc more = acc ++ more
  | [], acc, _ => (List.append_nil _).symm
  | kv :: more, acc, h => by
    have h2 : putK acc kv.1 kv.2 = acc ++ [kv] := by
      unfold putK
      rw [if_neg]
      rw [List.any_eq_true]
      rintro ⟨x, hx, e⟩
      have e := of_decide_eq_true e
      rw [List.map_append, List.nodup_append] at h
      exact h.2.2 _ (List.mem_map.mpr ⟨x, hx, rfl⟩) _ (List.mem_cons_self ..) e
    show mergeK (putK acc kv.1 kv.2) more = _
    rw [h2, merge_app (by rw [List.append_assoc]; exact h), List.append_assoc]
    rfl
theorem ev_disp [w : Wd K Z L W] {trs : List (TE × TE)} (h : EVP K Z H0 L Γ trs fs) (nd : (fs.map (·.1)).Nodup) (hl : fs.length ≤ 15) : EV K Z H0 L Γ W (tDisp trs) (Eq (.dct fs)) := fun σ H a Q k p hp => by
  obtain ⟨g1, j1⟩ := a.ex (Ex.new (o := .dK []) hp)
  have a1 := a.step g1 j1
  have nZ : ¬ Z.M p := fun m => a.ne (mt_z m) hp
  refine h σ _ a1 _ fun kvs H2 i2 e2 g2 j2 => ?_
  have ep : H2 p = some (.dK []) := g2 p _ upd_same fun m => absurd m nZ
  have lk : kvs.length = fs.length := by rw [← List.length_map (f := (·.1)), e2, List.length_map]
  refine ⟨ep, kvs, rfl, by omega, ?_⟩
  rw [merge_app (acc := []) (by rw [List.nil_append, e2]; exact nd), List.nil_append]
  have g3 : Gm (fun b => upd H p (.dK []) b ≠ none) H2 (upd H2 p (.dK kvs)) := fun b o e m => by
    by_cases q : b = p
    · subst q
      rw [ep] at e
      cases e
      exact absurd (m (by show upd H _ (.dK []) _ ≠ none; rw [upd_same]; exact fun z => nomatch z)) fun z => z
    · rw [upd_ne q]
      exact e
  have i3 := i2.mono g3
  have g4 : Gm Z.M H (upd H2 p (.dK kvs)) := fun b o e m => by
    rw [upd_ne (ne_of_none e hp)]
    exact g2 b o (g1 b o e m) m
  refine k _ _ _ rfl g4 (Z.loc H2 _ j2 fun b m => upd_ne fun q => nZ (q ▸ m)) (.dct upd_same (fun m => w.hi a m hp) (i3.zone fun b o e m n => ?_))
  by_cases q : b = p
  · subst q
    rw [upd_same]
    exact fun z => nomatch z
  · rw [upd_ne q]
    exact w.hi a m
example {p n : Int} : dlk [(ks "p", .int p), (ks "n", .int n)] (ks "n") = some (.int n) := by rfl
end
end Ly
namespace Ly
open PySem L2
section
variable {K : PySem.W.Frag} {H0 : Hp} {L : Own} {Γ : Gam} {σ : L2.St} {H : Hp} {ds : List Dt} {D : Ends} {tz : TS} {te : TE} {tt : TT} {P : Dt → Prop} {b : Bool}
/-- return e if .. else found, found a list of one's own -/
theorem q_retIfOwn {i : Nat} {l : Addr} (a : At K z0 H0 L Γ σ H) (fr : ∀ p ∈ L, H0 p.1 = none) (h : EVT K z0 H0 L Γ tt (Eq b)) (h1 : b = true → EV K z0 H0 L Γ wF te P) (hi : Γ[i]? = some (some (.raw (.ref l)))) (hl : (l, ds) ∈ L) [m : ImmL ds] (h2 : b = false → P (.lst ds)) (k : Kp K H0 P D.rt) :
    tSeq (tRet (tIf tt te (tVar i))) tz D σ H :=
  h σ H a _ fun b' H1 p g j => by
    subst p
    have a1 := a.step g j
    cases b with
    | true => exact iteT (q_ret (tz := tz) a1 fr (h1 rfl) k)
    | false => exact iteF (q_retOwn (tz := tz) a1 fr hi hl (k.to fun d q => q ▸ h2 rfl))
end
end Ly
end
section
set_option Elab.async false
set_option linter.all false
set_option maxRecDepth 100000
set_option maxHeartbeats 2000000
set_option autoImplicit false
namespace Ly
open PySem L2 PySem.Spec PyProof.Rows
/-! ### tuples whose methods are called: the object is kept in mind -/
def TupF (H : Hp) (a : Addr) (xs : List V) : Prop := ∃ ob : Obj, ob.dict = none ∧ H a = some (.frz ob (.tup xs))
theorem TupF.sq {K : PySem.W.Frag} {H : Hp} {a : Addr} {xs : List V} (h : TupF H a xs) : SqT K H a xs := by
  obtain ⟨ob, _, e⟩ := h
  exact .inl (.inr ⟨ob, e⟩)
theorem TupF.gm {M : Addr → Prop} {H H' : Hp} {a : Addr} {xs : List V} (h : TupF H a xs) (g : Gm M H H') : TupF H' a xs := by
  obtain ⟨ob, d, e⟩ := h
  exact ⟨ob, d, g _ _ e fun _ => trivial⟩
/-- tuple(list) -/
def rTupF (K : PySem.W.Frag) : List V → Hp → VK → Prop := fun xs H Q => ∃ p ys, xs = [.ref p] ∧ SqL K H p ys ∧ ∀ l ob, H l = none → ob.dict = none → Q (.ref l) (upd H l (.frz ob (.tup ys)))
theorem call_tupleF {X : Cx} : CallR X (.type "tuple") (rTupF X.K) := by
  intro pins s σ H xs us Q I r h
  obtain ⟨p, ys, rfl, hq, q⟩ := h
  obtain ⟨u, rfl, rx⟩ := vals1 r
  cases rx
  obtain ⟨its, r', pl, hz⟩ := I.list hq
  have hlen := r'.length
  refine call_tuple_list pl.isList (fun h' kp => ?_) (by simp only [List.size_toArray] <;> omega)
  have I1 : Inv X pins σ H { s with heap := h' } := I.kept (t' := s.toks) kp
  have I2 : Inv X pins σ (upd H h'.objs.size (.frz { cls := .type "tuple", data := .seq its.toArray } (.tup ys))) { s with heap := h'.push { cls := .type "tuple", data := .seq its.toArray } } :=
    I1.laid (t' := s.toks) (fun b o e => Heap.get?_push_of_some _ e) (Nat.le_refl _) (show ObjOk X.prog X.w _ _ _ (.frz _ (.tup ys)) from ⟨Heap.get?_push_size _ rfl, hz, its, r', IsTup.new _ _⟩)
  exact ⟨.ref h'.objs.size, _, I2, rfl, q _ _ (I1.hok.fresh (Nat.le_refl _)) rfl⟩
theorem x_tupleF {X : Cx} {K : PySem.W.Frag} (h : X.K = K := by rfl) : CallR X (.type "tuple") (rTupF K) := h ▸ call_tupleF
def tBMF (r : V → List V → Hp → VK → Prop) (to : TE) (t : TA) : TE := fun σ H Q => to σ H fun x H1 => (∃ p ys, x = .ref p ∧ TupF H1 p ys) ∧ t σ H1 fun xs H2 => r x xs H2 Q
section
variable {X : Cx} {K : PySem.W.Frag} {o e : Expr} {es : List Expr} {to : TE} {t : TA} {name : Str} {apos cpos : Pos} {id : String} {r : V → List V → Hp → VK → Prop}
theorem pe_bmF (slot : Slot "tuple" name id) (hty : typeOf (.builtin id) = pure (.type "method_descriptor")) (hm : MtR X id r) (ho : PE X o to) (ha : PA X (e :: es) t)
    (hbase : attributeBase o name X.env (eval o X.env) = eval o X.env := by rfl)
    (hfew : ((backTo cpos (starEach (e :: es) X.env)).all (fun x => !x.1) && (backToKw cpos (keywordEach [] X.env)).all (fun x => x.1.isSome)
      && decide ((e :: es).length + ([] : List Keyword).length + (if ([] : List Keyword).isEmpty then 0 else 1) < 30)) = true := by rfl)
    (hline : (apos.endLine == cpos.line) = true := by rfl) (hs : starEach (e :: es) X.env = (false, eval e X.env) :: starEach es X.env := by rfl) (hplain : (backTo cpos (starEach es X.env)).any (·.1) = false := by rfl) :
    PE X (.Call (.Attribute o name apos) (e :: es) [] cpos) (tBMF r to t) := by
  refine ⟨fun pins s σ H Q I h => ?_⟩
  refine wpAny_Call_method_late hbase hfew hline rfl (thn (ho.run pins s σ H _ I h) fun v s1 ⟨x, H1, I1, r1, ⟨p, ys, ex, ob, od, eo⟩, q1⟩ => ?_)
  subst ex
  obtain rfl : v = Value.ref p := r1
  obtain ⟨e1, _, its, _, o', e2, c2, _⟩ := I1.hok _ _ eo
  have eob : o' = ob := Option.some.inj (e2.symm.trans e1)
  subst eob
  refine ⟨"tuple", id, PySem.F.plainAttrs_tuple, slot, hty, ⟨_, e1, c2⟩, fun a q => ?_, ?_⟩
  · cases q
    exact ⟨_, e1, od⟩
  · have hA := ha.run cpos pins s1 σ H1 _ I1 q1
    rw [hs] at hA ⊢
    refine Calls.callWith_builtin (by show (false || (backTo cpos (starEach es X.env)).any (·.1)) = false; rw [hplain] <;> rfl) (Calls.evalArgs_plain ?_)
    exact thn hA fun us s2 ⟨vs, H2, I2, r2, q2⟩ => hm pins s2 σ H2 (V.ref p) vs (Value.ref p) us Q I2 rfl r2 q2
end
section
variable {K : PySem.W.Frag} {Z : Zn} {H0 : Hp} {L : Own} {Γ : Gam} {σ : L2.St} {H : Hp} {W : Hp → Addr → Prop} {te ti : TE} {d : Dt}
/-- a slot that holds such a tuple of ints: its length, a place in it -/
theorem ev_lenF [w : Wd K Z L W] {i : Nat} {a : Addr} {ns : List Int} (hi : Γ[i]? = some (some (.raw (.ref a)))) (hF : TupF H0 a (ns.map V.int)) : EV K Z H0 L Γ W (tCB (rLenU K) (tCons (tVar i) tNil)) (Eq (.int ns.length)) := fun σ H at_ Q k => by
  obtain ⟨v, e1, e2⟩ := at_.env i _ hi
  cases e2
  refine ⟨_, e1, _, (ns.map V.int).length, rfl, .inr ⟨_, (hF.gm at_.go).sq, rfl⟩, ?_⟩
  rw [List.length_map]
  exact k _ _ H rfl (Gm.refl H) at_.j (.int _)
theorem ev_indexF [w : Wd K Z L W] {i : Nat} {a : Addr} {ns : List Int} {z : Int} {j : Nat} (hi : Γ[i]? = some (some (.raw (.ref a)))) (hF : TupF H0 a (ns.map V.int)) (h : EV K Z H0 L Γ (wW Z) te (Eq (.int z))) (hj : ns[j]? = some z) (hn : ∀ m, m < j → ns[m]? ≠ some z) : EV K Z H0 L Γ W (tBMF (rIdxT K) (tVar i) (tCons te tNil)) (Eq (.int j)) := fun σ H at_ Q k => by
  obtain ⟨v, e1, e2⟩ := at_.env i _ hi
  cases e2
  refine ⟨_, e1, ⟨_, _, rfl, hF.gm at_.go⟩, h σ H at_ _ fun d v H1 p g jj x => ?_⟩
  subst p
  cases x
  exact ⟨a, ns, z, j, rfl, rfl, ((hF.gm at_.go).gm g).sq, hj, hn, k _ _ H1 rfl g jj (.int _)⟩
/-- tuple(list) of ints -/
theorem ev_tupF {ta : TA} {ns : List Int} (h : EVA K Z H0 L Γ (wW Z) ta (Eq [lstD ns])) : ∀ σ H, At K Z H0 L Γ σ H → ∀ Q : VK, (∀ a H', TupF H' a (ns.map V.int) → Gm Z.M H H' → Z.J H' → Q (.ref a) H') → tCB (rTupF K) ta σ H Q := fun σ H at_ Q k =>
  h σ H at_ _ fun ds vs H1 p g j x => by
    subst p
    cases x with
    | cons x l =>
      cases l
      cases x with
      | lst e n l =>
        have := l.ints
        subst this
        refine ⟨_, _, rfl, SqL.of e, fun q ob hq od => ?_⟩
        obtain ⟨g2, j2⟩ := (at_.step g j).ex (Ex.new (o := .frz ob (.tup (ns.map V.int))) hq)
        exact k q _ ⟨ob, od, upd_same⟩ (g.trans g2) j2
end
end Ly
end
section
set_option Elab.async false
set_option linter.all false
set_option maxRecDepth 100000
set_option maxHeartbeats 2000000
set_option autoImplicit false
namespace Ly
open PySem L2
/-! ### the law's source: a dict and its list of cells -/
abbrev MS (A C : Addr) : Addr → Prop := fun b => b = A ∨ b = C
def srcK (C : Addr) (l m t : Int) : List (Key × V) := [(ks "cells", .ref C), (ks "left", .int l), (ks "mixed", .int m), (ks "turn", .int t)]
def Src (A C : Addr) (H : Hp) : Prop := A ≠ C ∧ ∃ (cells : List Int) (l m t : Int), H A = some (.dK (srcK C l m t)) ∧ H C = some (.lst (cells.map V.int))
def Zs (A C : Addr) : Zn := ⟨MS A C, Src A C, fun H b h m => by
  obtain ⟨n, cells, l, m', t, h1, h2⟩ := h
  rcases m with m | m
  · subst m; exact ⟨_, h1, fun z => z⟩
  · subst m; exact ⟨_, h2, fun z => z⟩, fun H H' h e => by
  obtain ⟨n, cells, l, m', t, h1, h2⟩ := h
  exact ⟨n, cells, l, m', t, by rw [e A (.inl rfl)]; exact h1, by rw [e C (.inr rfl)]; exact h2⟩⟩
section
variable {K : PySem.W.Frag} {A C : Addr} {Z : Zn} {H0 H1 : Hp} {L L' : Own} {Γ Γ' : Gam} {σ : L2.St} {H H' : Hp}
variable {W W' W1 W2 : Hp → Addr → Prop} {te ta tb : TE} {tt tu : TT} {P P1 P2 : Dt → Prop} {d e f : Dt} {D : Ends} {tz ts ts' : TS} {ds es : List Dt} {PL PL1 : List Dt → Prop} {tr t : TA}
theorem src_dom {b : Addr} (j : Src A C H) (z : MS A C b) : H b ≠ none := by
  obtain ⟨o', h, _⟩ := (Zs A C).dom H b j z
  rw [h]
  exact fun q => nomatch q
/-! ### more rules where what comes is not told exactly -/
theorem ev_makeP [w : Wd K Z L W] {α : Type} {args : α → List Dt} {pre : α → Prop} {fs : α → List (Str × Dt)} {E : XK} {CC : Addr} (h : EVA K Z H0 L Γ (wW Z) t PL) (hp : ∀ ds, PL ds → ∃ x, ds = args x ∧ pre x ∧ P (.ins CC (fs x))) :
    EV K Z H0 L Γ W (tMake CC (spI K CC args pre fs) [] E t) P := fun σ H a Q k =>
  h σ H a _ fun ds us H1 p1 g1 j1 i1 => by
    obtain ⟨x, rfl, h1, h2⟩ := hp ds p1
    intro y dy ny nd ne
    show spI K CC args pre fs (.ref y :: (us ++ [])) _ _ E
    rw [List.append_nil]
    have e0 : Ex H1 (upd (upd H1 dy (.own y)) y (.ins CC dy [])) := fun b o e => by
      rw [upd_ne (ne_of_none e ny), upd_ne (ne_of_none e nd)]
      exact e
    refine ⟨x, y, dy, us, rfl, upd_same, h1, ⟨H1, ny, e0, i1.weak fun _ q => q.elim⟩, fun H' gs f1 f2 f3 => ⟨rfl, ?_⟩⟩
    have e1 : Ex H1 H' := fun b o e => f1 b o (fun q => by rw [q, ny] at e; cases e) (e0 b o e)
    refine fin_ex (P := P) a g1 j1 e1 (.ins f2 (f3.weak fun b m => ?_)) h2 k
    cases q : H1 b with
    | none => exact absurd q m
    | some o =>
      rw [e0 b o q]
      exact fun q => nomatch q
theorem ev_meth0P [w : Wd K Z L W] {α : Type} {args : α → List Dt} {pre : α → Prop} {post : α → Dt → Prop} {E : XK} {CC : Addr} {m : Str} (h1 : EV K Z H0 L Γ (wW Z) te P1) (hp : ∀ d, P1 d → ∃ (x : α) (fs : List (Str × Dt)), d = .ins CC fs ∧ args x = [.ins CC fs] ∧ pre x ∧ fs.lookup m = none ∧ ∀ r, post x r → P r) :
    EV K Z H0 L Γ W (tMeth CC m (spP K args pre post) [] E te tNil) P := fun σ H a Q k =>
  h1 σ H a _ fun d v H1 p1 g1 j1 i1 => by
    obtain ⟨x, fs, rfl, h2, h3, h4, h5⟩ := hp d p1
    cases i1 with
    | ins e l =>
      rename_i b dx vs
      refine ⟨b, dx, vs, rfl, e, l.none h4, ?_⟩
      show spP K args pre post (.ref b :: ([] ++ [])) H1 Q E
      refine ⟨x, h3, ?_, fun d v H2 p e i => fin_ex a g1 j1 e i (h5 d p) k⟩
      rw [h2]
      exact (IsL.cons (.ins e l) .nil).weak fun _ q => q.elim
/-! ### promises of defs that draw from the source -/
def spS (K : PySem.W.Frag) {α : Type} (args : α → List Dt) (pre : α → Prop) (post : α → Dt → Prop) : Sp := fun vs H Q _ =>
  ∃ (a : α) (A C : Addr) (ws : List V), vs = .ref A :: ws ∧ pre a ∧ Src A C H ∧ IsL K (MS A C) H (args a) ws ∧
    ∀ d v H', post a d → Gm (MS A C) H H' → Src A C H' → Is K (fun b => H b ≠ none) H' d v → Q v H'
theorem spS_len {α : Type} {args : α → List Dt} {pre : α → Prop} {post : α → Dt → Prop} {n : Nat} {vs : List V} {H : Hp} {Q : VK} {E : XK} (h : spS K args pre post vs H Q E) (hn : ∀ a, (args a).length = n) : vs.length = n + 1 := by
  obtain ⟨a, A, C, ws, rfl, _, _, i, _⟩ := h
  rw [List.length_cons, ← i.length, hn]
theorem ev_callS [w : Wd K (Zs A C) L W] {α : Type} {args : α → List Dt} {pre : α → Prop} {post : α → Dt → Prop} {E : XK} {i : Nat} (hi : Γ[i]? = some (some (.raw (.ref A)))) (h : EVA K (Zs A C) H0 L Γ (wW (Zs A C)) t PL) (hp : ∀ ds, PL ds → ∃ x, ds = args x ∧ pre x ∧ ∀ d, post x d → P d) :
    EV K (Zs A C) H0 L Γ W (tCall (spS K args pre post) [] E (tCons (tVar i) t)) P := fun σ H a Q k => by
  obtain ⟨v, e1, e2⟩ := a.env i _ hi
  cases e2
  refine ⟨_, e1, h σ H a _ fun ds vs H1 p g j x => ?_⟩
  obtain ⟨y, rfl, h1, h2⟩ := hp ds p
  have a1 := a.step g j
  show spS K args pre post (.ref A :: (vs ++ [])) H1 Q E
  rw [List.append_nil]
  refine ⟨y, A, C, vs, rfl, h1, j, x, fun d v H2 pd g2 j2 i2 => ?_⟩
  exact k d v H2 (h2 d pd) (g.trans g2) j2 (i2.weak fun b m => w.hi a1 (w.up a g j m))
/-- the beginning, the end -/
theorem at_begS {vs : List V} {N : List Str} (j : Src A C H) (h : IsL K (MS A C) H ds vs) (hG : ds.map some ++ List.replicate (N.length - ds.length) none = Γ) (hl : Nat.ble ds.length N.length = true) : At K (Zs A C) H [] Γ (L2.start N vs) H := by
  subst hG
  have hl := Nat.le_of_ble_eq_true hl
  refine ⟨Gm.refl H, j, (fun _ q => nomatch q), List.nodup_nil, ?_, fun i d e => ?_⟩
  · unfold L2.start
    rw [List.length_append, List.length_append, List.length_map, List.length_map, List.length_replicate, List.length_replicate, h.length]
  · by_cases hi : i < ds.length
    · rw [List.getElem?_append_left (by rw [List.length_map]; exact hi), List.getElem?_map] at e
      cases q : ds[i]? with
      | none => rw [q] at e; cases e
      | some d' =>
        rw [q] at e
        have := Option.some.inj (Option.some.inj e)
        subst this
        obtain ⟨v, e1, e2⟩ := h.get q
        refine ⟨v, ?_, e2.weak fun b m => m.elim id fun q => nomatch q⟩
        unfold L2.start
        rw [List.getElem?_append_left (by rw [List.length_map, ← h.length]; exact hi), List.getElem?_map, e1]
        rfl
    · rw [List.getElem?_append_right (by rw [List.length_map]; omega), List.getElem?_replicate] at e
      split at e <;> cases e
theorem At.gmS (a : At K (Zs A C) H0 L Γ σ H) (fr : ∀ p ∈ L, H0 p.1 = none) : Gm (MS A C) H0 H := fun b o e m => a.go b o e fun q => q.elim m fun q => by
  obtain ⟨p, hp, rfl⟩ := List.mem_map.mp q
  rw [fr p hp] at e
  cases e
theorem At.newS (a : At K (Zs A C) H0 L Γ σ H) (fr : ∀ p ∈ L, H0 p.1 = none) {b : Addr} (m : H0 b ≠ none) : H b ≠ none := by
  by_cases z : MS A C b
  · exact src_dom a.j z
  · cases q : H0 b with
    | none => exact absurd q m
    | some o =>
      rw [a.gmS fr b o q fun w => absurd w z]
      exact fun q => nomatch q
def KS (K : PySem.W.Frag) (A C : Addr) (H0 : Hp) (P : Dt → Prop) (Q : VK) : Prop := ∀ d v H', P d → Gm (MS A C) H0 H' → Src A C H' → Is K (fun b => H0 b ≠ none) H' d v → Q v H'
theorem qs_ret (a : At K (Zs A C) H0 L Γ σ H) (fr : ∀ p ∈ L, H0 p.1 = none) (h : EV K (Zs A C) H0 L Γ wF te P) (k : KS K A C H0 P D.rt) : tSeq (tRet te) tz D σ H :=
  h σ H a _ fun d v H' p g j x => k d v H' p ((a.gmS fr).trans g) j (x.weak fun b m => a.newS fr m)
theorem qs_ret1 (a : At K (Zs A C) H0 [] Γ σ H) (h : EV K (Zs A C) H0 [] Γ wF te P) (k : KS K A C H0 P D.rt) : tSeq (tRet te) tz D σ H := qs_ret a (fun _ q => nomatch q) h k
theorem qs_retOwn {i : Nat} {l : Addr} (a : At K (Zs A C) H0 L Γ σ H) (fr : ∀ p ∈ L, H0 p.1 = none) (h : Γ[i]? = some (some (.raw (.ref l)))) (hl : (l, ds) ∈ L) [m : ImmL ds] (k : KS K A C H0 (Eq (.lst ds)) D.rt) : tSeq (tRet (tVar i)) tz D σ H := by
  obtain ⟨v, e1, e2⟩ := a.env i _ h
  cases e2
  obtain ⟨xs, h1, h2, h3⟩ := a.own _ hl
  exact ⟨_, e1, k _ _ _ rfl (a.gmS fr) a.j (.lst h1 (fun q => q (fr _ hl)) (m.any _ _ _ _ _ h2))⟩
end
end Ly
end
section
set_option Elab.async false
set_option linter.all false
set_option maxRecDepth 100000
set_option maxHeartbeats 2000000
set_option autoImplicit false
namespace Ly
open PySem L2
/-! ### the source as it just stands -/
structure SC where
  cells : List Int
  l : Int
  m : Int
  t : Int
def SC.J (A C : Addr) (s : SC) (H : Hp) : Prop := A ≠ C ∧ H A = some (.dK (srcK C s.l s.m s.t)) ∧ H C = some (.lst (s.cells.map V.int))
def Zq (A C : Addr) (s : SC) : Zn := ⟨MS A C, s.J A C, fun H b h m => by
  obtain ⟨n, h1, h2⟩ := h
  rcases m with m | m
  · subst m; exact ⟨_, h1, fun z => z⟩
  · subst m; exact ⟨_, h2, fun z => z⟩, fun H H' h e => by
  obtain ⟨n, h1, h2⟩ := h
  exact ⟨n, by rw [e A (.inl rfl)]; exact h1, by rw [e C (.inr rfl)]; exact h2⟩⟩
section
variable {K : PySem.W.Frag} {A C : Addr} {s s' : SC} {H0 H1 : Hp} {L L' : Own} {Γ Γ' : Gam} {σ : L2.St} {H H' : Hp}
variable {W W' W1 W2 : Hp → Addr → Prop} {te ta tb tv : TE} {tt tu : TT} {P P1 P2 : Dt → Prop} {d e f : Dt} {D : Ends} {tz ts ts' : TS} {ds es : List Dt} {x : Int} {i : Nat}
theorem At.zq (a : At K (Zq A C s) H0 L Γ σ H) (g : Gm (MS A C) H H') (j : s'.J A C H') : At K (Zq A C s') H0 L Γ σ H' := by
  have g2 : Gm (Mt (Zq A C s) L) H H' := g.weak fun b h => .inl h
  refine ⟨a.go.trans g2, j, fun p hp => ?_, a.nd, a.len, fun i d h => ?_⟩
  · obtain ⟨xs, h, l, n⟩ := a.own p hp
    exact ⟨xs, g _ _ h fun m => absurd m n, l.mono g2, n⟩
  · obtain ⟨v, h1, h2⟩ := a.env i d h
    exact ⟨v, h1, h2.mono g2⟩
theorem At.zqs (a : At K (Zq A C s) H0 L Γ σ H) : At K (Zs A C) H0 L Γ σ H := ⟨a.go, ⟨a.j.1, s.cells, s.l, s.m, s.t, a.j.2.1, a.j.2.2⟩, a.own, a.nd, a.len, a.env⟩
theorem gm_A {o : HO} : Gm (MS A C) H (upd H A o) ∨ True := .inr trivial
theorem srcK_get (A C : Addr) (l m t : Int) : valV (srcK C l m t) (ks "cells") = some (.ref C) ∧ valV (srcK C l m t) (ks "left") = some (.int l) ∧ valV (srcK C l m t) (ks "mixed") = some (.int m) ∧ valV (srcK C l m t) (ks "turn") = some (.int t) := ⟨rfl, rfl, rfl, rfl⟩
theorem srcK_left (C : Addr) (l m t x : Int) : putK (srcK C l m t) (ks "left") (.int x) = srcK C x m t := rfl
theorem srcK_turn (C : Addr) (l m t x : Int) : putK (srcK C l m t) (ks "turn") (.int x) = srcK C l m x := rfl
theorem ev_sget {z : Str} {v : V} (hi : Γ[i]? = some (some (.raw (.ref A)))) (hv : valV (srcK C s.l s.m s.t) (ks z) = some v) : EV K (Zq A C s) H0 L Γ W (tDGet (tVar i) (tC (.str z))) (Eq (.raw v)) := fun σ H a Q k => by
  obtain ⟨w, e1, e2⟩ := a.env i _ hi
  cases e2
  refine ⟨_, e1, A, v, rfl, ?_, k _ v H rfl (Gm.refl H) a.j (.raw v)⟩
  have := DGet.k (k := ks z) a.j.2.1
  rw [hv] at this
  exact this
theorem ev_rawI (h : EV K (Zq A C s) H0 L Γ W te (Eq (.raw (.int x)))) : EV K (Zq A C s) H0 L Γ W te (Eq (.int x)) := fun σ H a Q k => h σ H a Q fun d v H' p g j i => by
  subst p
  cases i
  exact k _ _ H' rfl g j (.int x)
theorem ev_sleft (hi : Γ[i]? = some (some (.raw (.ref A)))) : EV K (Zq A C s) H0 L Γ W (tDGet (tVar i) (tC (.str "left"))) (Eq (.int s.l)) := ev_rawI (ev_sget hi rfl)
theorem ev_smixed (hi : Γ[i]? = some (some (.raw (.ref A)))) : EV K (Zq A C s) H0 L Γ W (tDGet (tVar i) (tC (.str "mixed"))) (Eq (.int s.m)) := ev_rawI (ev_sget hi rfl)
theorem ev_sturn (hi : Γ[i]? = some (some (.raw (.ref A)))) : EV K (Zq A C s) H0 L Γ W (tDGet (tVar i) (tC (.str "turn"))) (Eq (.int s.t)) := ev_rawI (ev_sget hi rfl)
theorem ev_scells (hi : Γ[i]? = some (some (.raw (.ref A)))) : EV K (Zq A C s) H0 L Γ W (tCB (rLenU K) (tCons (tDGet (tVar i) (tC (.str "cells"))) tNil)) (Eq (.int s.cells.length)) := fun σ H a Q k =>
  ev_sget (W := wF) (z := "cells") hi rfl σ H a _ fun d v H' p g j x => by
    subst p
    cases x
    refine ⟨_, (s.cells.map V.int).length, rfl, .inl ⟨_, SqL.of j.2.2, rfl⟩, ?_⟩
    rw [List.length_map]
    exact k _ _ H' rfl g j (.int _)
theorem gmA {o o2 : HO} (h : H A = some o) (n : ¬ Still o) : Gm (MS A C) H (upd H A o2) := fun b u e m => by
  by_cases q : b = A
  · subst q
    rw [h] at e
    cases e
    exact absurd (m (.inl rfl)) n
  · rw [upd_ne q]
    exact e
theorem gmC {o o2 : HO} (h : H C = some o) (n : ¬ Still o) : Gm (MS A C) H (upd H C o2) := fun b u e m => by
  by_cases q : b = C
  · subst q
    rw [h] at e
    cases e
    exact absurd (m (.inr rfl)) n
  · rw [upd_ne q]
    exact e
/-- source["left"] = e, source["turn"] = e -/
theorem q_sleft (a : At K (Zq A C s) H0 L Γ σ H) (hi : Γ[i]? = some (some (.raw (.ref A)))) (h : EV K (Zq A C s) H0 L Γ (wW (Zq A C s)) tv (Eq (.int x))) (k : ∀ H', At K (Zq A C { s with l := x }) H0 L Γ σ H' → tz D σ H') : tSeq (sDPut (tVar i) (tC (.str "left")) tv) tz D σ H :=
  h σ H a _ fun d v H' p g j y => by
    subst p
    cases y
    have a1 := a.step g j
    obtain ⟨w, e1, e2⟩ := a1.env i _ hi
    cases e2
    refine ⟨_, e1, A, upd H' A (.dK (putK (srcK C s.l s.m s.t) (ks "left") (.int x))), rfl, .inl ⟨_, ks "left", j.2.1, rfl, by show 4 < sizeLine; decide, rfl⟩, ?_⟩
    rw [srcK_left]
    refine k _ (a1.zq (gmA j.2.1 fun z => z) ⟨j.1, upd_same, ?_⟩)
    rw [upd_ne (Ne.symm j.1)]
    exact j.2.2
theorem q_sturn (a : At K (Zq A C s) H0 L Γ σ H) (hi : Γ[i]? = some (some (.raw (.ref A)))) (h : EV K (Zq A C s) H0 L Γ (wW (Zq A C s)) tv (Eq (.int x))) (k : ∀ H', At K (Zq A C { s with t := x }) H0 L Γ σ H' → tz D σ H') : tSeq (sDPut (tVar i) (tC (.str "turn")) tv) tz D σ H :=
  h σ H a _ fun d v H' p g j y => by
    subst p
    cases y
    have a1 := a.step g j
    obtain ⟨w, e1, e2⟩ := a1.env i _ hi
    cases e2
    refine ⟨_, e1, A, upd H' A (.dK (putK (srcK C s.l s.m s.t) (ks "turn") (.int x))), rfl, .inl ⟨_, ks "turn", j.2.1, rfl, by show 4 < sizeLine; decide, rfl⟩, ?_⟩
    rw [srcK_turn]
    refine k _ (a1.zq (gmA j.2.1 fun z => z) ⟨j.1, upd_same, ?_⟩)
    rw [upd_ne (Ne.symm j.1)]
    exact j.2.2
/-- source["left"] = source["cells"].pop() -/
theorem q_spop (a : At K (Zq A C s) H0 L Γ σ H) (hi : Γ[i]? = some (some (.raw (.ref A)))) (hne : s.cells ≠ []) (k : ∀ x H', At K (Zq A C { s with l := x, cells := s.cells.dropLast }) H0 L Γ σ H' → tz D σ H') :
    tSeq (sDPut (tVar i) (tC (.str "left")) (tBM0 K "list" rPop (tDGet (tVar i) (tC (.str "cells"))))) tz D σ H := by
  refine ev_sget (W := wF) (z := "cells") hi rfl σ H a _ fun d v H' p g j y => ?_
  subst p
  cases y
  have a1 := a.step g j
  have hlen : 0 < s.cells.length := List.length_pos_iff.mpr hne
  have hlast : (s.cells.map V.int)[(s.cells.map V.int).length - 1]? = some (.int (s.cells[s.cells.length - 1]'(by omega))) := by
    rw [List.length_map, List.getElem?_map, List.getElem?_eq_getElem (by omega)]
    rfl
  refine ⟨.inl ⟨rfl, _, SqL.of j.2.2⟩, C, s.cells.map V.int, _, rfl, rfl, j.2.2, hlast, ?_⟩
  obtain ⟨w, e1, e2⟩ := a1.env i _ hi
  cases e2
  have hA : upd H' C (.lst (s.cells.map V.int).dropLast) A = some (.dK (srcK C s.l s.m s.t)) := by rw [upd_ne j.1]; exact j.2.1
  refine ⟨_, e1, A, upd (upd H' C (.lst (s.cells.map V.int).dropLast)) A (.dK (putK (srcK C s.l s.m s.t) (ks "left") (.int (s.cells[s.cells.length - 1]'(by omega))))), rfl, .inl ⟨_, ks "left", hA, rfl, by show 4 < sizeLine; decide, rfl⟩, ?_⟩
  rw [srcK_left]
  refine k _ _ (a1.zq ((gmC j.2.2 fun z => z).trans (gmA hA fun z => z)) ⟨j.1, upd_same, ?_⟩)
  rw [upd_ne (Ne.symm j.1), upd_same, ← List.map_dropLast]
end
end Ly
end
section
set_option Elab.async false
set_option linter.all false
set_option maxRecDepth 100000
set_option maxHeartbeats 2000000
set_option autoImplicit false
namespace Ly
open PySem L2
theorem perm_erase {α : Type} : ∀ {l : List α} {i : Nat} {x : α}, l[i]? = some x → (x :: l.eraseIdx i).Perm l
  | [], _, _, h => by simp at h
  | y :: l, 0, x, h => by
    simp at h
    subst h
    exact .refl _
  | y :: l, i + 1, x, h => by
    simp at h
    exact (List.Perm.swap _ _ _).trans ((perm_erase h).cons y)
section
variable {K : PySem.W.Frag} {A C : Addr} {Z : Zn} {H0 H1 : Hp} {L L' : Own} {Γ Γ' : Gam} {σ : L2.St} {H H' : Hp}
variable {W W' W1 W2 : Hp → Addr → Prop} {te ti tp : TE} {ta : TA} {tt tu : TT} {P P1 P2 : Dt → Prop} {d e f : Dt} {D : Ends} {tz ts ts' : TS} {ds es : List Dt}
/-- the ints the law is handed -/
theorem it_raw {a : Addr} {ns : List Int} {i : Nat} (hi : Γ[i]? = some (some (.raw (.ref a)))) (hs : SqL K H0 a (ns.map V.int)) : IT K z0 H0 [] Γ (Mt z0 []) (iSq K (tVar i)) (Eq (ns.map Dt.int)) := fun σ H at' R k => .inl (by
  obtain ⟨v, e1, e2⟩ := at'.env i _ hi
  cases e2
  have no : ∀ b, ¬ Mt z0 [] b := fun b m => m.elim id fun q => nomatch q
  have ex : Ex H0 H := fun b o e => at'.go b o e fun m => absurd m (no b)
  have hl : (ns.map Dt.int).length = (ns.map V.int).length := by rw [List.length_map, List.length_map]
  refine ⟨_, e1, a, rfl, ⟨_, hs.ext ex⟩, k _ _ H (fun H' => SqL K H' a (ns.map V.int)) (YAt _) rfl (by rw [hl]; exact walk_list) (Gm.refl H) at'.j (fun H' g => (hs.ext ex).ext fun b o e => g b o e fun m => absurd m (no b)) fun i H' x H2 hi g y => ?_⟩
  obtain ⟨rfl, hx⟩ := y
  obtain ⟨d, hd, ix⟩ := (IsL.ofInts (K := K) (M := Mt z0 []) (H := H2) ns).getV hx
  exact ⟨Ex.refl _, d, hd, ix⟩)
/-- rows[k] = e -/
theorem q_put {i n k : Nat} {l : Addr} (a : At K Z H0 L Γ σ H) (h : EV K Z H0 L Γ (wS Z L) te P) (hP : ∀ d, P d → Imm d) (hi : Γ[i]? = some (some (.raw (.ref l)))) (hn : L[n]? = some (l, ds)) (hd : ImmL ds) (hk : k < ds.length) (hj : EV K Z H0 L Γ wF ti (Eq (.int (k : Nat))))
    (kk : ∀ d, P d → ∀ H', At K Z H0 (L.set n (l, ds.set k d)) Γ σ H' → tz D σ H') : tSeq (tAsg te (gSub (tVar i) ti rSetL)) tz D σ H :=
  h σ H a _ fun d v H1 p g j x => by
    have a1 := a.step g j
    obtain ⟨v1, e1, e2⟩ := a1.env i _ hi
    cases e2
    refine ⟨_, e1, hj σ H1 a1 _ fun d2 v2 H2 p2 g2 j2 x2 => ?_⟩
    subst p2
    cases x2
    have a2 := a1.step g2 j2
    obtain ⟨xs, h1, h2, h3⟩ := a2.own _ (List.mem_of_getElem? hn)
    have hl : ds.length = xs.length := h2.length
    refine ⟨l, xs, _, k, rfl, rfl, h1, ?_, ?_⟩
    · unfold ixN
      rw [if_pos (by omega), if_pos (by omega)]
      rfl
    · have x' : Is K (Mt Z L) H2 d v := (x.weak fun b m => m).mono (g2.weak fun b m => .inl m)
      refine kk d p _ (a2.own_put hn (h2.set k x') ⟨fun e he => ?_⟩)
      rcases List.mem_or_eq_of_mem_set he with q | q
      · exact hd.all e q
      · rw [q]; exact hP d p
/-- [rest.pop(..) for _ in range(len(rest))] -/
theorem q_retPops {i j : Nat} {l : Addr} (a : At K (Zs A C) H0 [(l, ds)] Γ σ H) (fr : H0 l = none) (hi : Γ[i]? = some (some (.raw (.ref l)))) (hij : ∀ x : Dt, ((wipeG Γ [j]).set j (some x))[i]? = some (some (.raw (.ref l)))) (hd : ImmL ds) (hz : ds.length ≤ 1000)
    (h1 : EVA K (Zs A C) H0 [(l, ds)] Γ wF ta (Eq [.int (ds.length : Nat)]))
    (hp : ∀ L2 rest x, rest ≠ [] → rest.length ≤ 1000 → (l, rest) ∈ L2 → EV K (Zs A C) H0 L2 ((wipeG Γ [j]).set j (some x)) wF tp (fun d => ∃ i : Nat, d = .int i ∧ i < rest.length))
    (k : KS K A C H0 (fun d => ∃ es, d = .lst es ∧ es.Perm ds) D.rt) : tSeq (tRet (tLc (iRng1 ta) (gName j) tYes (tBM K "list" rPopAt (tVar i) (tCons tp tNil)) [j])) tz D σ H :=
  h1 σ H a _ fun ds0 vs H1 p g1 j1 x => by
    subst p
    cases x with
    | cons x l0 =>
    cases l0
    cases x
    refine ⟨_, rfl, by omega, by omega, fun dn hD => ?_⟩
    have a1 := a.step g1 j1
    have tn : ((ds.length : Nat) : Int).toNat = ds.length := Int.toNat_natCast _
    rw [tn]
    refine lc_it (walk_range (lo := 0) (n := ds.length)) (fun i H' => ∃ ds' rest, At K (Zs A C) H0 [(dn, ds'), (l, rest)] Γ σ H' ∧ (ds' ++ rest).Perm ds ∧ ds'.length = i) ?_ (fun _ _ _ _ => trivial) (fun n x H' H2 hlt q y => ?_) fun H' q => ?_
    · refine ⟨[], ds, a1.own_new (l := dn) (xs := []) (fun b o e m => ?_) ((Zs A C).loc H1 _ j1 fun b m => upd_ne fun q => ?_) hD upd_same .nil inferInstance, .refl _, rfl⟩
      · rw [upd_ne (ne_of_none e hD)]
        exact e
      · subst q
        exact a1.ne (mt_z m) hD
    · obtain ⟨ds', rest, q1, q2, q3⟩ := q
      obtain ⟨rfl, rfl⟩ := y
      have hlen := q2.length_eq
      rw [List.length_append] at hlen
      have hne : rest ≠ [] := fun z => by
        rw [z] at hlen
        simp at hlen
        omega
      have hall : ∀ e ∈ ds' ++ rest, Imm e := fun e he => hd.all e (q2.mem_iff.mp he)
      obtain ⟨f1, f2⟩ := gt_name (K := K) (i := j) (d := .int (0 + (n : Nat)))
      obtain ⟨ws, f3, f4⟩ := f2 (Mt (Zs A C) [(dn, ds'), (l, rest)]) H2 _ (.int _)
      refine f4 _ _ ⟨wipe_sets (vs := [j]) (fun _ h => h) |>.trans (by
        refine List.ext_getElem? fun n => ?_
        rw [wipe_at, wipe_at, wipe_length]
        by_cases q : n ∈ [j]
        · rw [if_pos q, if_pos q]
        · rw [if_neg q, if_neg q]), ?_⟩
      have a4 := (q1.wipe [j]).sets f3 f1
      show tBM K "list" rPopAt (tVar i) (tCons tp tNil) _ _ _
      obtain ⟨v, e1, e2⟩ := a4.env i _ (hij _)
      cases e2
      obtain ⟨xs0, o1, o2, o3⟩ := q1.own (l, rest) (by simp)
      refine ⟨_, e1, .inl ⟨rfl, xs0, SqL.of o1⟩, hp [(dn, ds'), (l, rest)] rest _ hne (by omega) (by simp) _ _ a4 _ fun d v H3 pd g5 j5 x5 => ?_⟩
      obtain ⟨kk, rfl, hk⟩ := pd
      cases x5
      have a5 := q1.step g5 j5
      obtain ⟨xs, u1, u2, u3⟩ := a5.own (l, rest) (by simp)
      have hl : rest.length = xs.length := u2.length
      have hk2 : kk < xs.length := by omega
      refine ⟨l, xs, _, kk, xs[kk], rfl, rfl, u1, by omega, by omega, ?_, List.getElem?_eq_getElem hk2, ?_⟩
      · refine (ixN_seq (j := kk) ?_).1
        unfold ixN
        rw [if_pos (by omega), if_pos (by omega)]
        rfl
      · have er : rest[kk]? = some rest[kk] := List.getElem?_eq_getElem hk
        have a6 := a5.own_put (n := 1) (l := l) (ds := rest) (es := rest.eraseIdx kk) rfl (u2.erase kk) ⟨fun e he => hall e (List.mem_append_right _ (List.mem_of_mem_eraseIdx he))⟩
        obtain ⟨acc, w1, w2, w3⟩ := a6.own (dn, ds') (by simp)
        obtain ⟨y, y1, y2⟩ := u2.get er
        rw [List.getElem?_eq_getElem hk2] at y1
        have y1 := Option.some.inj y1
        have im : Imm rest[kk] := hall _ (List.mem_append_right _ (List.getElem_mem hk))
        refine ⟨acc, w1, ?_, ds' ++ [rest[kk]], rest.eraseIdx kk, ?_, ?_, ?_⟩
        · rw [← w2.length, q3]
          exact Nat.lt_of_lt_of_le hlt (Nat.le_trans hz (by decide))
        · have gT : Gm (Mt (Zs A C) [(dn, ds'), (l, rest)]) H3 (upd H3 l (.lst (xs.eraseIdx kk))) := fun b o e m => by
            by_cases q : b = l
            · subst q
              rw [u1] at e
              cases e
              exact absurd (m (.inr (by simp))) fun z => z
            · rw [upd_ne q]
              exact e
          have y3 := y2.mono gT
          rw [y1] 
          exact a6.own_put (n := 0) (l := dn) (ds := ds') (es := ds' ++ [rest[kk]]) rfl (w2.append (.one (im.any _ _ _ _ _ y3))) ⟨fun e he => by
            rcases List.mem_append.mp he with q | q
            · exact hall e (List.mem_append_left _ q)
            · rw [List.mem_singleton.mp q]; exact im⟩
        · rw [List.append_assoc]
          exact ((perm_erase er).append_left ds').trans q2
        · rw [List.length_append, q3]
          rfl
    · obtain ⟨ds', rest, q1, q2, q3⟩ := q
      have hlen := q2.length_eq
      rw [List.length_append] at hlen
      have : rest = [] := List.length_eq_zero_iff.mp (by omega)
      subst this
      rw [List.append_nil] at q2
      obtain ⟨xs, h1, h2, h3⟩ := q1.own (dn, ds') (by simp)
      have fn : H0 dn = none := a1.base_none hD
      have fr2 : ∀ p ∈ [(dn, ds'), (l, ([] : List Dt))], H0 p.1 = none := fun p hp => by
        simp at hp
        rcases hp with q | q <;> subst q
        · exact fn
        · exact fr
      have im : ImmL ds' := ⟨fun e he => hd.all e (q2.mem_iff.mp he)⟩
      exact k _ _ _ ⟨ds', rfl, q2⟩ (q1.gmS fr2) q1.j (.lst h1 (fun q => q fn) (im.any _ _ _ _ _ h2))
end
end Ly
end
section
set_option Elab.async false
set_option linter.all false
set_option maxRecDepth 100000
set_option maxHeartbeats 2000000
set_option autoImplicit false
namespace Ly
open PySem L2
theorem perm_map {α β : Type} {f : α → β} {es ds : List β} (h : es.Perm ds) : ∀ l : List α, ds = l.map f → ∃ l2 : List α, l2.Perm l ∧ es = l2.map f := by
  induction h with
  | nil => exact fun l e => ⟨l, .refl _, e⟩
  | cons x h ih =>
    intro l e
    cases l with
    | nil => cases e
    | cons y l =>
      rw [List.map_cons] at e
      cases e
      obtain ⟨l2, h1, rfl⟩ := ih l rfl
      exact ⟨y :: l2, h1.cons y, rfl⟩
  | swap x y r =>
    intro l e
    cases l with
    | nil => cases e
    | cons a l =>
      cases l with
      | nil => cases e
      | cons b l =>
        rw [List.map_cons, List.map_cons] at e
        cases e
        exact ⟨b :: a :: l, .swap a b l, rfl⟩
  | trans h1 h2 ih1 ih2 =>
    intro l e
    obtain ⟨l2, p2, rfl⟩ := ih2 l e
    obtain ⟨l3, p3, rfl⟩ := ih1 l2 rfl
    exact ⟨l3, p3.trans p2, rfl⟩
section
variable {K : PySem.W.Frag} {A C : Addr} {Z : Zn} {H0 H1 : Hp} {L L' : Own} {Γ Γ' : Gam} {σ : L2.St} {H H' : Hp}
variable {W W' W1 W2 : Hp → Addr → Prop} {te ti tj tp : TE} {ta : TA} {tt tu : TT} {P P1 P2 : Dt → Prop} {d e f : Dt} {D : Ends} {tz ts ts' : TS} {ds es : List Dt} {PL : List Dt → Prop}
theorem EVA.to {t : TA} {PL1 : List Dt → Prop} (h : EVA K Z H0 L Γ W t PL) (hp : ∀ ds, PL ds → PL1 ds) : EVA K Z H0 L Γ W t PL1 := fun σ H a Q k => h σ H a Q fun ds vs H' p => k ds vs H' (hp ds p)
theorem RR.to {r : R2} (h : RR K r d e P) (hp : ∀ d, P d → P1 d) : RR K r d e P1 := fun M H x y hx hy Q k => h M H x y hx hy Q fun f v H' p => k f v H' (hp f p)
theorem RC.to {r : List V → Hp → VK → Prop} (h : RC K r ds P) (hp : ∀ d, P d → P1 d) : RC K r ds P1 := fun M H vs hx Q k => h M H vs hx Q fun f v H' p => k f v H' (hp f p)
/-- the second of the own lists is not needed any more -/
theorem At.drop1 {p q : Addr × List Dt} (a : At K Z H0 (p :: q :: L) Γ σ H) (hq : H0 q.1 = none) : At K Z H0 (p :: L) Γ σ H := by
  have w : ∀ b, Mt Z (p :: L) b → Mt Z (p :: q :: L) b := fun b m => m.elim .inl fun m => .inr (by
    rcases List.mem_cons.mp m with m | m
    · exact List.mem_cons.mpr (.inl m)
    · exact List.mem_cons_of_mem _ (List.mem_cons_of_mem _ m))
  refine ⟨fun b o e m => a.go b o e fun m2 => ?_, a.j, fun r hr => ?_, ?_, a.len, fun i d h => ?_⟩
  · rcases m2 with m2 | m2
    · exact m (.inl m2)
    · rcases List.mem_cons.mp m2 with m2 | m2
      · exact m (.inr (List.mem_cons.mpr (.inl m2)))
      · rcases List.mem_cons.mp m2 with m2 | m2
        · rw [m2, hq] at e
          cases e
        · exact m (.inr (List.mem_cons_of_mem _ m2))
  · obtain ⟨xs, h1, h2, h3⟩ := a.own r (by
      rcases List.mem_cons.mp hr with m | m
      · exact List.mem_cons.mpr (.inl m)
      · exact List.mem_cons_of_mem _ (List.mem_cons_of_mem _ m))
    exact ⟨xs, h1, h2.weak w, h3⟩
  · have := a.nd
    rw [List.map_cons, List.map_cons] at this
    rw [List.map_cons]
    exact List.Nodup.sublist (.cons₂ _ (.cons _ (.refl _))) this
  · obtain ⟨v, e1, e2⟩ := a.env i d h
    exact ⟨v, e1, e2.weak w⟩
/-- for i in range(n), by any invariant -/
theorem q_forR {j n : Nat} {Inv : Nat → L2.St → Hp → Prop} (a : At K Z H0 L Γ σ H) (h : EVA K Z H0 L Γ W ta (Eq [.int (n : Nat)])) (hn : n < 2 ^ 62) (h0 : ∀ H', At K Z H0 L Γ σ H' → Inv 0 σ H')
    (hs : ∀ i, i < n → ∀ σ' H', Inv i σ' H' → ∀ N : L2.St → Hp → Prop, (∀ σ2 H2, Inv (i + 1) σ2 H2 → N σ2 H2) → ts { D with nx := N, ct := N, bk := tz D } (σ'.set j (some (.int (0 + (i : Nat))))) H')
    (hd : ∀ σ' H', Inv n σ' H' → tz D σ' H') : tSeq (tFor (iRng1 ta) (gName j) ts) tz D σ H :=
  h σ H a _ fun ds vs H1 p g jj x => by
    subst p
    cases x with
    | cons x l =>
      cases l
      cases x
      refine ⟨_, rfl, by omega, by omega, ?_⟩
      have tn : ((n : Nat) : Int).toNat = n := Int.toNat_natCast _
      rw [tn]
      refine for_it (walk_range (lo := 0) (n := n)) Inv (h0 H1 (a.step g jj)) (fun _ _ _ _ _ => trivial) (fun i x σ' H' H2 hi q y => ?_) hd
      obtain ⟨rfl, rfl⟩ := y
      exact hs i hi σ' H2 q _ fun _ _ q => q
/-- a name becomes a list of one's own, what is in it is told in part -/
theorem q_ownP {i : Nat} (a : At K Z H0 L Γ σ H) (h : EV K Z H0 L Γ wF te P) (hP : ∀ d, P d → ∃ ds, d = .lst ds ∧ ImmL ds) (k : ∀ l ds σ' H', P (.lst ds) → H0 l = none → At K Z H0 ((l, ds) :: L) (Γ.set i (some (.raw (.ref l)))) σ' H' → tz D σ' H') : tSeq (tAsg te (gName i)) tz D σ H :=
  h σ H a _ fun d v H' p g j x => by
    obtain ⟨ds, rfl, hi⟩ := hP d p
    cases x with
    | lst e n l =>
      rename_i b xs
      have hl : H b = none := Classical.byContradiction n
      exact k b ds _ H' p (a.base_none hl) ((a.own_new g j hl e l hi).set i (.raw _))
theorem q_parOP {i j : Nat} (a : At K Z H0 L Γ σ H) (h : EVA K Z H0 L Γ wF ta PL) (hP : ∀ l, PL l → ∃ d ds, l = [d, .lst ds] ∧ Imm d ∧ ImmL ds) (k : ∀ d l ds σ' H', PL [d, .lst ds] → H0 l = none → At K Z H0 ((l, ds) :: L) ((Γ.set i (some d)).set j (some (.raw (.ref l)))) σ' H' → tz D σ' H') : tSeq (tPar i j ta) tz D σ H :=
  h σ H a _ fun es vs H' p g jj x => by
    obtain ⟨d, ds, rfl, hd, hi⟩ := hP es p
    cases x with
    | cons x1 x =>
      cases x with
      | cons x2 x =>
        cases x
        cases x2 with
        | lst e n l =>
          rename_i v b xs
          have hl : H b = none := Classical.byContradiction n
          exact ⟨_, _, rfl, k d b ds _ H' p (a.base_none hl) (((a.own_new g jj hl e l hi).set i (hd.any _ _ _ _ _ x1)).set j (.raw _))⟩
/-- list(range(n)), list(range(a, b)) -/
theorem rg_is {M : Addr → Prop} {H : Hp} (a b : Int) : IsL K M H (rngD a (b - a).toNat) (rgV a b) := by
  have e1 : rngD a (b - a).toNat = ((List.range (b - a).toNat).map fun i : Nat => a + (i : Int)).map Dt.int := by unfold rngD; rw [List.map_map]; rfl
  have e2 : rgV a b = ((List.range (b - a).toNat).map fun i : Nat => a + (i : Int)).map V.int := by unfold rgV; rw [List.map_map]; rfl
  rw [e1, e2]
  exact .ofInts _
theorem ev_listRg [w : Wd K Z L W] {n : Nat} (h : EV K Z H0 L Γ (wW Z) te (Eq (.int (n : Nat)))) (hn : n ≤ 16777216) : EV K Z H0 L Γ W (tLstRg (tRg1 te)) (Eq (.lst (rngD 0 n))) := fun σ H a Q k =>
  h σ H a _ fun d v H1 p g j i => by
    subst p
    cases i
    refine ⟨_, rfl, RgOk.of_le (by omega) (by omega) (by omega) (by omega), fun q hq => ?_⟩
    have a1 := a.step g j
    obtain ⟨g2, j2⟩ := a1.ex (Ex.new (p := q) (o := .lst (rgV 0 (n : Nat))) hq)
    have := rg_is (K := K) (M := W H) (H := upd H1 q (.lst (rgV 0 (n : Nat)))) 0 (n : Nat)
    rw [show ((n : Int) - 0).toNat = n by omega] at this
    exact k _ _ _ rfl (g.trans g2) j2 (.lst upd_same (fun m => absurd hq (w.hi a1 (w.up a g j m))) this)
theorem ev_listRg2 [w : Wd K Z L W] {a b : Int} (h1 : EV K Z H0 L Γ (wW Z) te (Eq (.int a))) (h2 : EV K Z H0 L Γ (wW Z) ti (Eq (.int b))) (hn : RgOk a b) : EV K Z H0 L Γ W (tLstRg (tRg2 te ti)) (Eq (.lst (rngD a (b - a).toNat))) := fun σ H at_ Q k =>
  h1 σ H at_ _ fun d v H1 p g j i => h2 σ H1 (at_.step g j) _ fun d2 v2 H2 p2 g2 j2 i2 => by
    subst p
    subst p2
    cases i
    cases i2
    refine ⟨_, _, rfl, rfl, hn, fun q hq => ?_⟩
    have a1 := (at_.step g j).step g2 j2
    obtain ⟨g3, j3⟩ := a1.ex (Ex.new (p := q) (o := .lst (rgV a b)) hq)
    exact k _ _ _ rfl ((g.trans g2).trans g3) j3 (.lst upd_same (fun m => absurd hq (w.hi a1 (w.up at_ (g.trans g2) j2 m))) (rg_is a b))
/-- if, both ways meet in J -/
theorem q_ifJ {B : Bool → Prop} (J : L2.St → Hp → Prop) (a : At K Z H0 L Γ σ H) (h : EVT K Z H0 L Γ tt B) (h1 : B true → ∀ H', At K Z H0 L Γ σ H' → ∀ N : L2.St → Hp → Prop, (∀ σ2 H2, J σ2 H2 → N σ2 H2) → ts { D with nx := N } σ H')
    (h2 : B false → ∀ H', At K Z H0 L Γ σ H' → ∀ N : L2.St → Hp → Prop, (∀ σ2 H2, J σ2 H2 → N σ2 H2) → ts' { D with nx := N } σ H') (hj : ∀ σ2 H2, J σ2 H2 → tz D σ2 H2) : tSeq (tIfS tt ts ts') tz D σ H :=
  q_if a h (fun b H' s => h1 b H' s _ hj) fun b H' s => h2 b H' s _ hj
/-- l[k] = v, an int, within a longer target -/
theorem gsub_int {i n k : Nat} {l : Addr} {x : Int} {Q : L2.St → Hp → Prop} (a : At K Z H0 L Γ σ H) (hi : Γ[i]? = some (some (.raw (.ref l)))) (hn : L[n]? = some (l, ds)) (hd : ImmL ds) (hk : k < ds.length) (hj : EV K Z H0 L Γ wF ti (Eq (.int (k : Nat))))
    (kk : ∀ H', At K Z H0 (L.set n (l, ds.set k (.int x))) Γ σ H' → Q σ H') : gSub (tVar i) ti rSetL (.int x) σ H Q := by
  obtain ⟨v1, e1, e2⟩ := a.env i _ hi
  cases e2
  refine ⟨_, e1, hj σ H a _ fun d2 v2 H2 p2 g2 j2 x2 => ?_⟩
  subst p2
  cases x2
  have a2 := a.step g2 j2
  obtain ⟨xs, h1, h2, h3⟩ := a2.own _ (List.mem_of_getElem? hn)
  have hl : ds.length = xs.length := h2.length
  refine ⟨l, xs, _, k, rfl, rfl, h1, ?_, ?_⟩
  · unfold ixN
    rw [if_pos (by omega), if_pos (by omega)]
    rfl
  · refine kk _ (a2.own_put hn (h2.set k (.int x)) ⟨fun e he => ?_⟩)
    rcases List.mem_or_eq_of_mem_set he with q | q
    · exact hd.all e q
    · rw [q]; exact inferInstance
/-- l[k], l[m] = x, y -/
theorem q_swapI {i n k m : Nat} {l : Addr} {x y : Int} (a : At K Z H0 L Γ σ H) (h : EV K Z H0 L Γ (wS Z L) te (Eq (.tup [.int x, .int y]))) (hi : Γ[i]? = some (some (.raw (.ref l)))) (hn : L[n]? = some (l, ds)) (hd : ImmL ds) (hk : k < ds.length) (hm : m < ds.length)
    (hj1 : EV K Z H0 L Γ wF ti (Eq (.int (k : Nat)))) (hj2 : ∀ L', EV K Z H0 L' Γ wF tj (Eq (.int (m : Nat))))
    (kk : ∀ H', At K Z H0 ((L.set n (l, ds.set k (.int x))).set n (l, (ds.set k (.int x)).set m (.int y))) Γ σ H' → tz D σ H') : tSeq (tAsg te (gTup K 2 (gCons (gSub (tVar i) ti rSetL) (gCons (gSub (tVar i) tj rSetL) gNil)))) tz D σ H :=
  h σ H a _ fun d v H1 p g j x0 => by
    subst p
    cases x0 with
    | tup e l0 =>
      cases l0 with
      | cons x1 l0 =>
        cases l0 with
        | cons x2 l0 =>
          cases l0
          cases x1
          cases x2
          refine ⟨_, _, rfl, e, rfl, _, _, rfl, gsub_int (a.step g j) hi hn hd hk hj1 fun H2 a2 => ⟨_, _, rfl, ?_⟩⟩
          have hlt : n < L.length := (List.getElem?_eq_some_iff.mp hn).1
          refine gsub_int a2 hi (ds := ds.set k (.int x)) (by rw [List.getElem?_set_self hlt]) ⟨fun e he => ?_⟩ (by rw [List.length_set]; exact hm) (hj2 _) fun H3 a3 => ⟨rfl, kk H3 a3⟩
          rcases List.mem_or_eq_of_mem_set he with q | q
          · exact hd.all e q
          · rw [q]; exact inferInstance
/-- tuple(list) of ints, told in part -/
theorem ev_tupFP {PN : List Int → Prop} (h : EVA K Z H0 L Γ (wW Z) ta PL) (hP : ∀ l, PL l → ∃ ns, l = [lstD ns] ∧ PN ns) : ∀ σ H, At K Z H0 L Γ σ H → ∀ Q : VK, (∀ a ns H', PN ns → TupF H' a (ns.map V.int) → Gm Z.M H H' → Z.J H' → Q (.ref a) H') → tCB (rTupF K) ta σ H Q := fun σ H at_ Q k =>
  h σ H at_ _ fun ds vs H1 p g j x => by
    obtain ⟨ns, rfl, pn⟩ := hP ds p
    cases x with
    | cons x l =>
      cases l
      cases x with
      | lst e n l =>
        have := l.ints
        subst this
        refine ⟨_, _, rfl, SqL.of e, fun q ob hq od => ?_⟩
        obtain ⟨g2, j2⟩ := (at_.step g j).ex (Ex.new (o := .frz ob (.tup (ns.map V.int))) hq)
        exact k q ns _ pn ⟨ob, od, upd_same⟩ (g.trans g2) j2
end
end Ly
end
section
set_option Elab.async false
set_option linter.all false
set_option maxRecDepth 100000
set_option maxHeartbeats 2000000
set_option autoImplicit false
/-! ### t[::-1] of a tuple -/
namespace Rv
open PySem PyProof.Rows PySem.Calls HT
section
variable {prog : Program} {w : World} {A : Around} {E : Value → Shared → Prop} {s : Shared}
theorem adj (n : Nat) : Builtin.Slice.sliceAdjust none none (-1) (n : Int) = ((n : Int) - 1, -1) := by
  unfold Builtin.Slice.sliceAdjust
  simp only [show ((-1 : Int) < 0) from by decide, if_true]
theorem plc (n : Nat) : Builtin.Slice.slicePlaces ((n : Int) - 1) (-1) (-1) = n := by
  unfold Builtin.Slice.slicePlaces
  have h : ¬ ((-1 : Int) > 0) := by omega
  simp only [h, if_false, Int.neg_neg, Int.ediv_one]
  split <;> omega
theorem fm_congr {α β : Type} {f g : α → Option β} : ∀ {l : List α}, (∀ x ∈ l, f x = g x) → l.filterMap f = l.filterMap g
  | [], _ => rfl
  | x :: l, h => by
    rw [List.filterMap_cons, List.filterMap_cons, h x (List.mem_cons_self ..), fm_congr fun y hy => h y (List.mem_cons_of_mem _ hy)]
theorem picks (xs : Array Value) : ((List.range xs.size).filterMap fun (m : Nat) => xs[((xs.size : Int) - 1 + (m : Int) * -1).toNat]?).toArray = xs.toList.reverse.toArray := by
  have e : ∀ m ∈ List.range xs.size, xs[((xs.size : Int) - 1 + (m : Int) * -1).toNat]? = ((fun j => xs[j]?) ∘ fun j => xs.size - 1 - j) m := fun m hm => by
    have := List.mem_range.mp hm
    show _ = xs[xs.size - 1 - m]?
    congr 1
    omega
  rw [fm_congr e, ← List.filterMap_map, PySem.W.krv_range, List.filterMap_reverse, PySem.W.krv_all]
theorem applied {sl : Addr} {vl vu vs : Value} {n : Nat} {Q : Int × Int × Nat → Shared → Prop} (hs : s.heap.IsSliceOf sl vl vu vs) (pl : IsPart vl none) (pu : IsPart vu none) (ps : IsPart vs (some (-1)))
    (h : Q ((n : Int) - 1, -1, n) s) : wpAny (model prog w) A (Builtin.Slice.sliceApplied (.ref sl) (pure (n : Int))) Q E s := by
  obtain ⟨ob, hob, _, hd⟩ := hs
  unfold Builtin.Slice.sliceApplied Builtin.Slice.sliceFields
  refine wpAny_bind (wpAny_bind (wpAny_field hob hd (x := vl) rfl (wpAny_bind (wpAny_field hob hd (x := vu) rfl (wpAny_bind (wpAny_field hob hd (x := vs) rfl (wpAny_pure ?_)))))))
  refine wpAny_bind (slicePart_ ps ?_)
  show wpAny _ _ (if ((-1 : Int) == 0) = true then _ else _) _ _ s
  rw [if_neg (by decide)]
  refine wpAny_bind (slicePart_ pl (wpAny_bind (slicePart_ pu (wpAny_bind (wpAny_pure ?_)))))
  show wpAny _ _ (match Builtin.Slice.sliceAdjust none none (-1) (n : Int) with | (lo, hi) => pure (lo, (-1 : Int), Builtin.Slice.slicePlaces lo hi (-1))) _ _ s
  rw [adj n]
  show wpAny _ _ (pure ((n : Int) - 1, (-1 : Int), Builtin.Slice.slicePlaces ((n : Int) - 1) (-1) (-1))) _ _ s
  rw [plc]
  exact wpAny_pure h
theorem got {t sl : Addr} {xs : Array Value} {vl vu vs : Value} {Q : Value → Shared → Prop} (ht : IsTup s.heap t xs) (hs : s.heap.IsSliceOf sl vl vu vs) (pl : IsPart vl none) (pu : IsPart vu none) (ps : IsPart vs (some (-1)))
    (h : Q (.ref s.heap.objs.size) { s with heap := s.heap.push { cls := .type "tuple", data := .seq xs.toList.reverse.toArray } }) (hz : xs.size ≤ sizeLine) : wpAny (model prog w) A (getItem (.ref t) (.ref sl)) Q E s := by
  have hz2 : sizeOk (.seq xs.toList.reverse.toArray) := by
    show xs.toList.reverse.toArray.size ≤ sizeLine
    rw [List.size_toArray, List.length_reverse, Array.length_toList]; exact hz
  obtain ⟨ob, hob, hcl, hd⟩ := id hs
  have hT : s.TypeIs (.ref sl) "slice" := ⟨ob, hob, hcl⟩
  unfold getItem
  try with_reducible refine wpAny_holding ?_
  first | refine wpAny_bind (wpAny_pure ?_) | skip
  refine wpAny_bind (wpAny_sequenceKey (ht.typeIs) (by decide) ?_)
  refine wpAny_bind (wpAny_callSpecial?_slot (name := Str.ofString "__getitem__") ht.typeIs PyProof.Rows.slot_tuple_getitem (wpAny_call_entry PyProof.Rows.slot_tuple_getitem ht.typeIs entry_tuple_getitem ?_ (args_tuple_getitem _ _)))
  show wpAny _ _ ((Builtin.Tuple.tupleItemsOf (.ref t)) >>= _) _ _ s
  refine wpAny_bind (tupleItemsOf_ ht (wpAny_bind (wpAny_typeOf hT ?_)))
  rw [if_pos (by decide)]
  refine wpAny_bind (applied (n := xs.size) hs pl pu ps ?_)
  have hno : ¬ ((((xs.size : Int) - 1) == 0 && (-1 : Int) == 1 && xs.size == xs.size) = true) := by simp
  show wpAny _ _ (if (((xs.size : Int) - 1) == 0 && (-1 : Int) == 1 && xs.size == xs.size) = true then _ else _) _ _ s
  rw [if_neg hno, picks]
  first
    | exact wpAny_bind (m := Builtin.Tuple.tupleExact _) (wpAny_newObj_type (wpAny_pure ⟨_, rfl, wpAny_pure h⟩) hz2)
    | exact wpAny_bind (m := Builtin.Tuple.tupleExact _) (wpAny_newObj_type (wpAny_bind (wpAny_pure (wpAny_pure ⟨_, rfl, wpAny_pure h⟩))) hz2)
end
end Rv
namespace Ly
open PySem L2 PySem.Spec PyProof.Rows
def tRevT (K : PySem.W.Frag) (te : TE) : TE := fun σ H Q => te σ H fun x H1 => ∃ a xs, x = .ref a ∧ SqT K H1 a xs ∧ ∀ p, H1 p = none → Q (.ref p) (upd H1 p (.tup xs.reverse))
theorem pe_revT {X : Cx} {e : Expr} {te : TE} {k : Nat} {p1 p2 p3 pos : Pos} (he : PE X e te) : PE X (.Subscript e (.Slice none none (some (.UnaryOp .USub (.Constant (.int 1) k p1) p2)) p3) pos) (tRevT X.K te) := by
  refine ⟨fun pins s σ H Q I h => Subscript_ (thn (he.run pins s σ H _ I h) fun v s1 ⟨x, H1, I1, r1, a, xs, ex, hx, q⟩ => ?_)⟩
  subst ex
  cases r1
  have hm : PO X (some (.UnaryOp .USub (.Constant (.int 1) k p1) p2)) (tPart (tUn (rU fun i => .int (-i)) (tC (.int 1)))) := po_some (pe_un un_neg pe_int)
  refine wpAny_Slice (thn (po_none.run pins s1 σ H1 (fun o G => o = none ∧ G = H1) I1 ⟨rfl, rfl⟩) fun vl s2 ⟨l, H2, I2, pl, el, e2⟩ => ?_)
  subst el e2
  refine thn (po_none.run pins s2 σ H2 (fun o G => o = none ∧ G = H2) I2 ⟨rfl, rfl⟩) fun vu s3 ⟨u, H3, I3, pu, eu, e3⟩ => ?_
  subst eu e3
  refine thn (hm.run pins s3 σ H3 (fun o G => o = some (-1) ∧ G = H3) I3 ⟨1, rfl, -1, rfl, rfl, rfl⟩) fun vs s4 ⟨o, H4, I4, ps, eo, e4⟩ => ?_
  subst eo e4
  have I5 : Inv X pins σ H4 { s4 with heap := s4.heap.push { cls := .type "slice", data := .fields #[vl, vu, vs] } } := I4.kept (t' := s4.toks) fun _ _ z => Heap.get?_push_of_some _ z
  obtain ⟨its, r, ht, hz⟩ := I5.tuple hx
  have hl := r.length
  show wpAny (model X.prog X.w) X.A (subscriptTail e (.Slice none none (some (.UnaryOp .USub (.Constant (.int 1) k p1) p2)) p3) (.ref a) (.ref s4.heap.objs.size)) (EP X pins σ Q) X.xe _
  refine tail_any (ops := [.ref a, .ref s4.heap.objs.size]) ht.typeIs PyProof.Rows.slot_tuple_getitem.lookup ?_ (by with_unfolding_all rfl)
  refine Rv.got ht (Heap.IsSliceOf.new _ vl vu vs) pl pu ps ?_ (by rw [List.size_toArray]; omega)
  refine ⟨.ref _, _, I5.laid (t' := s4.toks) (o := .tup xs.reverse) (fun _ _ z => Heap.get?_push_of_some _ z) (Nat.le_refl _) ?_, rfl, q _ (I5.hok.fresh (Nat.le_refl _))⟩
  exact ⟨by rw [List.length_reverse]; exact hz, _, r.reverse, IsTup.new _ _⟩
theorem x_revT {X : Cx} {K : PySem.W.Frag} {e : Expr} {te : TE} {k : Nat} {p1 p2 p3 pos : Pos} (he : PE X e te) (h : X.K = K := by rfl) : PE X (.Subscript e (.Slice none none (some (.UnaryOp .USub (.Constant (.int 1) k p1) p2)) p3) pos) (tRevT K te) := h ▸ pe_revT he
/-! ### x in seq -/
def rInU (K : PySem.W.Frag) : R2 := fun x y H Q => rIn K false x y H Q ∨ rInD K x y H Q
def rNiU (K : PySem.W.Frag) : R2 := fun x y H Q => rIn K true x y H Q ∨ rNotInD K x y H Q
theorem x_in {X : Cx} {K : PySem.W.Frag} (hu : X.A.units + 65 < cLine) (h : X.K = K := by rfl) : OpR X (compareOp .In) (rInU K) := h ▸ op_in_seq.or (op_inD hu)
theorem x_ni {X : Cx} {K : PySem.W.Frag} (hu : X.A.units + 65 < cLine) (h : X.K = K := by rfl) : OpR X (compareOp .NotIn) (rNiU K) := h ▸ op_notIn_seq.or (op_notInD hu)
section
variable {K : PySem.W.Frag} {A C : Addr} {Z : Zn} {H0 H1 : Hp} {L L' : Own} {Γ Γ' : Gam} {σ : L2.St} {H H' : Hp}
variable {W W' W1 W2 : Hp → Addr → Prop} {te ti tj tp : TE} {ta : TA} {tt tu : TT} {P P1 P2 : Dt → Prop} {d e f : Dt} {D : Ends} {tz ts ts' : TS} {ds es : List Dt} {PL : List Dt → Prop}
theorem ev_revT [w : Wd K Z L W] [i : ImmL ds] (h : EV K Z H0 L Γ (wW Z) te (Eq (.tup ds))) : EV K Z H0 L Γ W (tRevT K te) (Eq (.tup ds.reverse)) := fun σ H a Q k =>
  h σ H a _ fun d' x H1 p1 g1 j1 i1 => by
    subst p1
    cases i1 with
    | tup hx l =>
      refine ⟨_, _, rfl, hx, fun q hq => ?_⟩
      have a1 := a.step g1 j1
      obtain ⟨g2, j2⟩ := a1.ex (Ex.new (p := q) (o := .tup _) hq)
      exact k _ _ _ rfl (g1.trans g2) j2 (.tup (SqT.of upd_same) (((i.any _ _ _ _ _ l).mono (g2.weak fun b m => w.lo a m)).reverse))
theorem inV_ints (z : Int) (ns : List Int) : inV (.int z) (ns.map V.int) = decide (z ∈ ns) := by
  unfold inV
  induction ns with
  | nil => simp
  | cons x ns ih =>
    rw [List.map_cons, List.any_cons, ih]
    show ((x == z) || _) = _
    by_cases q : x = z
    · subst q; simp
    · simp [q, Ne.symm q]
theorem flat_intsV (ns : List Int) : (ns.map V.int).all flatV = true := by
  induction ns with
  | nil => rfl
  | cons x ns ih => exact ih
/-- an int not in a tuple of ints -/
theorem rr_niT {z : Int} {ns : List Int} : RR K (rNiU K) (.int z) (.tup (ns.map Dt.int)) (Eq (.bl (!decide (z ∈ ns)))) := fun M H x y hx hy Q k => by
  cases hx
  cases hy with
  | tup h l =>
    have := l.ints
    subst this
    refine .inl ⟨_, _, rfl, .inr h, rfl, flat_intsV ns, ?_⟩
    rw [inV_ints]
    exact k _ _ H rfl (Ex.refl H) (.bl _)
/-! ### == of encoded data -/
structure Enc {α : Type} [DecidableEq α] (f : α → Dt) (k : Nat) : Prop where
  ok : ∀ a, (f a).ok = true
  lay : ∀ a, (f a).pd.canLay0 = true
  dep : ∀ a, (f a).pd.depth ≤ k
  eqv : ∀ a b, PyData.eqv (f a).pd (f b).pd = decide (a = b)
theorem enc_int : Enc Dt.int 1 := ⟨fun _ => rfl, fun _ => rfl, fun _ => by simp [Dt.pd, PyData.depth], fun a b => by
  show (a == b) = _
  exact Bool.beq_eq_decide_eq a b⟩
theorem enc_nat : Enc (fun i : Nat => Dt.int i) 1 := ⟨fun _ => rfl, fun _ => rfl, fun _ => by simp [Dt.pd, PyData.depth], fun a b => by
  show ((a : Int) == b) = _
  rw [Bool.beq_eq_decide_eq]
  exact decide_eq_decide.mpr Int.ofNat_inj⟩
section
variable {α : Type} [DecidableEq α] {g : α → Dt} {k : Nat}
theorem enc_okL (E : Enc g k) : ∀ l : List α, okL (l.map g) = true
  | [] => rfl
  | a :: l => Bool.and_eq_true_iff.mpr ⟨E.ok a, enc_okL E l⟩
theorem enc_lay (E : Enc g k) : ∀ l : List α, PyData.canLayAll0 (pdL (l.map g)) = true
  | [] => by simp [pdL, PyData.canLayAll0]
  | a :: l => by
    show PyData.canLayAll0 ((g a).pd :: pdL (l.map g)) = true
    simp only [PyData.canLayAll0, E.lay a, enc_lay E l, Bool.and_self]
theorem enc_dep (E : Enc g k) : ∀ l : List α, PyData.depthAll (pdL (l.map g)) ≤ k
  | [] => by simp [pdL, PyData.depthAll]
  | a :: l => by
    show PyData.depthAll ((g a).pd :: pdL (l.map g)) ≤ k
    simp only [PyData.depthAll]
    exact Nat.max_le.mpr ⟨E.dep a, enc_dep E l⟩
theorem enc_eqv (E : Enc g k) : ∀ l m : List α, PyData.eqvAll (pdL (l.map g)) (pdL (m.map g)) = decide (l = m)
  | [], [] => by simp [pdL, PyData.eqvAll]
  | [], _ :: _ => by simp [pdL, PyData.eqvAll]
  | _ :: _, [] => by simp [pdL, PyData.eqvAll]
  | a :: l, b :: m => by
    show PyData.eqvAll ((g a).pd :: pdL (l.map g)) ((g b).pd :: pdL (m.map g)) = _
    rw [PyData.eqvAll, E.eqv, enc_eqv E l m]
    by_cases q : a = b <;> by_cases r : l = m <;> simp [q, r]
theorem enc_tup (E : Enc g k) : Enc (fun l : List α => Dt.tup (l.map g)) (k + 1) := ⟨enc_okL E, fun l => by
  show (PyData.tuple (pdL (l.map g))).canLay0 = true
  simp only [PyData.canLay0]
  exact enc_lay E l, fun l => by
  show (PyData.tuple (pdL (l.map g))).depth ≤ _
  simp only [PyData.depth]
  have := enc_dep E l
  omega, fun l m => by
  show PyData.eqv (.tuple (pdL (l.map g))) (.tuple (pdL (m.map g))) = _
  rw [PyData.eqv]
  exact enc_eqv E l m⟩
theorem enc_lst (E : Enc g k) : Enc (fun l : List α => Dt.lst (l.map g)) (k + 1) := ⟨enc_okL E, fun l => by
  show (PyData.list (pdL (l.map g))).canLay0 = true
  simp only [PyData.canLay0]
  exact enc_lay E l, fun l => by
  show (PyData.list (pdL (l.map g))).depth ≤ _
  simp only [PyData.depth]
  have := enc_dep E l
  omega, fun l m => by
  show PyData.eqv (.list (pdL (l.map g))) (.list (pdL (m.map g))) = _
  rw [PyData.eqv]
  exact enc_eqv E l m⟩
theorem enc_shaped (E : Enc g k) (hk : k ≤ 64 := by decide) (a : α) : SeqAt.shaped (g a).pd = true := by
  unfold SeqAt.shaped
  rw [E.lay a, decide_eq_true (Nat.le_trans (E.dep a) hk)]
  rfl
theorem rr_eqE (E : Enc g k) {a b : α} (hk : k ≤ 64 := by decide) : RR K (rEqU K) (g a) (g b) (Eq (.bl (decide (a = b)))) := by
  have h := rr_eqD (K := K) (E.ok a) (E.ok b) (enc_shaped E hk a) (enc_shaped E hk b)
  rw [E.eqv] at h
  exact h
theorem rr_neE (E : Enc g k) {a b : α} (hk : k ≤ 64 := by decide) : RR K (rNeU K) (g a) (g b) (Eq (.bl (!decide (a = b)))) := by
  have h := rr_neD (K := K) (E.ok a) (E.ok b) (enc_shaped E hk a) (enc_shaped E hk b)
  rw [E.eqv] at h
  exact h
end
/-! ### own lists of data of any kind -/
theorem At.own_putN (a : At K Z H0 L Γ σ H) {n : Nat} {l : Addr} {ds es : List Dt} {ys : List V} (hn : L[n]? = some (l, ds)) (i : IsL K (Mt Z L) H es ys) : At K Z H0 (L.set n (l, es)) Γ σ (upd H l (.lst ys)) := by
  have hm : (l, ds) ∈ L := List.mem_of_getElem? hn
  obtain ⟨xs, h1, h2, h3⟩ := a.own _ hm
  have em : (L.set n (l, es)).map (·.1) = L.map (·.1) := by
    rw [List.map_set]
    refine List.ext_getElem? fun j => ?_
    by_cases q : n = j
    · subst q
      rw [List.getElem?_set_self', List.getElem?_map, hn]
      rfl
    · rw [List.getElem?_set_ne q]
  have mt : ∀ b, Mt Z (L.set n (l, es)) b ↔ Mt Z L b := fun b => by unfold Mt; rw [em]
  have ml : Mt Z L l := .inr (List.mem_map.mpr ⟨_, hm, rfl⟩)
  have g : Gm (Mt Z L) H (upd H l (.lst ys)) := fun b o e m => by
    by_cases q : b = l
    · subst q
      rw [h1] at e
      cases e
      exact absurd (m ml) fun z => z
    · rw [upd_ne q]
      exact e
  refine ⟨(a.go.trans g).weak fun b m => (mt b).mpr m, Z.loc H _ a.j fun b m => upd_ne fun q => h3 (q ▸ m), fun p hp => ?_, by rw [em]; exact a.nd, a.len, fun j d hj => ?_⟩
  · obtain ⟨m1, hm1⟩ := List.mem_iff_getElem?.mp hp
    rcases get_set hm1 with ⟨q1, q2, _⟩ | ⟨q1, q2⟩
    · subst q2
      exact ⟨ys, upd_same, (i.mono g).weak fun b m => (mt b).mp m, h3⟩
    · obtain ⟨zs, e1, e2, e3⟩ := a.own p (List.mem_of_getElem? q2)
      have ne : p.1 ≠ l := fun q => q1 (by
        have e6 : (L.map (·.1))[n]? = (L.map (·.1))[m1]? := by
          rw [List.getElem?_map, List.getElem?_map, hn, q2]
          show some l = some p.1
          rw [q]
        obtain ⟨hlt, _⟩ := List.getElem?_eq_some_iff.mp hn
        exact (List.getElem?_inj (by rw [List.length_map]; exact hlt) a.nd).mp e6)
      exact ⟨zs, by rw [upd_ne ne]; exact e1, (e2.mono g).weak fun b m => (mt b).mp m, e3⟩
  · obtain ⟨v, e1, e2⟩ := a.env j d hj
    exact ⟨v, e1, (e2.mono g).weak fun b m => (mt b).mp m⟩
theorem q_appendN {i n : Nat} {l : Addr} (a : At K Z H0 L Γ σ H) (hi : Γ[i]? = some (some (.raw (.ref l)))) (hn : L[n]? = some (l, ds)) (hz : ds.length ≤ 100000) (h : EV K Z H0 L Γ (wS Z L) te P)
    (k : ∀ d, P d → ∀ σ' H', At K Z H0 (L.set n (l, ds ++ [d])) Γ σ' H' → tz D σ' H') : tSeq (tDrop (tBM K "list" rAppend (tVar i) (tCons te tNil))) tz D σ H := by
  obtain ⟨v, e1, e2⟩ := a.env i _ hi
  cases e2
  obtain ⟨xs, h1, h2, h3⟩ := a.own _ (List.mem_of_getElem? hn)
  refine ⟨_, e1, .inl ⟨rfl, xs, SqL.of h1⟩, h σ H a _ fun d v H' p g j x => ?_⟩
  have a1 := a.step g j
  obtain ⟨ys, u1, u2, u3⟩ := a1.own _ (List.mem_of_getElem? hn)
  refine ⟨l, ys, v, rfl, rfl, u1, ?_, ?_⟩
  · rw [← u2.length]
    exact Nat.lt_of_le_of_lt hz (by decide)
  · exact k d p _ _ (a1.own_putN hn (u2.append (.one x)))
/-- l[i], an item of any kind -/
theorem ev_ixW {i : Int} (h1 : EV K Z H0 L Γ (wW Z) te (Eq (.lst ds))) (h2 : EV K Z H0 L Γ (wW Z) ti (Eq (.int i))) (hx : L2.atI ds i = some d) : EV K Z H0 L Γ (wW Z) (tOp (rIx K) te ti) (Eq d) := fun σ H a Q k =>
  h1 σ H a _ fun d1 x H1 p1 g1 j1 i1 => h2 σ H1 (a.step g1 j1) _ fun d2 y H2 p2 g2 j2 i2 => by
    subst p1
    subst p2
    cases i2
    cases i1.mono g2 with
    | lst hl nx lx =>
      obtain ⟨v, e, iv⟩ := lx.atI hx
      exact .inl ⟨_, _, i, v, rfl, rfl, SqL.of hl, e, k _ _ H2 rfl (g1.trans g2) j2 iv⟩
/-- promises of defs without the source, called where there is no own list: what comes back is not told to be new -/
def spP0 (K : PySem.W.Frag) {α : Type} (args : α → List Dt) (pre : α → Prop) (post : α → Dt → Prop) : Sp := fun vs H Q _ =>
  ∃ a : α, pre a ∧ IsL K (fun _ => False) H (args a) vs ∧ ∀ d v H', post a d → Ex H H' → Is K (fun _ => False) H' d v → Q v H'
theorem spP0_len {α : Type} {args : α → List Dt} {pre : α → Prop} {post : α → Dt → Prop} {n : Nat} {vs : List V} {H : Hp} {Q : VK} {E : XK} (h : spP0 K args pre post vs H Q E) (hn : ∀ a, (args a).length = n) : vs.length = n := by
  obtain ⟨a, _, i, _⟩ := h
  rw [← i.length, hn]
theorem ev_call0 {α : Type} {args : α → List Dt} {pre : α → Prop} {post : α → Dt → Prop} {E : XK} {t : TA} (x : α) (h : EVA K z0 H0 [] Γ (wW z0) t (Eq (args x))) (hp : pre x) : EV K z0 H0 [] Γ (wS z0 []) (tCall (spP0 K args pre post) [] E t) (post x) := fun σ H a Q k =>
  h σ H a _ fun ds vs H1 p g j i => by
    subst p
    show spP0 K args pre post (vs ++ []) H1 Q E
    rw [List.append_nil]
    exact ⟨x, hp, i.weak fun _ q => q.elim, fun d v H2 p e i => k d v H2 p (g.trans (Gm.ofEx e)) trivial (i.weak fun _ q => q.elim id fun q => nomatch q)⟩
theorem q_retOwn0 {i : Nat} {l : Addr} (a : At K z0 H0 L Γ σ H) (fr : ∀ p ∈ L, H0 p.1 = none) (h : Γ[i]? = some (some (.raw (.ref l)))) (hl : (l, ds) ∈ L) (k : ∀ v H', Ex H0 H' → Is K (fun _ => False) H' (.lst ds) v → D.rt v H') : tSeq (tRet (tVar i)) tz D σ H := by
  obtain ⟨v, e1, e2⟩ := a.env i _ h
  cases e2
  obtain ⟨xs, h1, h2, h3⟩ := a.own _ hl
  exact ⟨_, e1, k _ _ (a.ex0 fr) (.lst h1 (fun q => q) (h2.weak fun _ q => q.elim))⟩
/-- l[:k], both told in part -/
theorem ev_cutP [w : Wd K Z L W] {tk : TE} {PB : List Dt → Prop} {PJ : Nat → Prop} (h : EV K Z H0 L Γ (wW Z) te (fun d => ∃ ds, d = .lst ds ∧ ImmL ds ∧ PB ds)) (h2 : EV K Z H0 L Γ (wW Z) tk (fun d => ∃ j : Nat, d = .int j ∧ PJ j)) :
    EV K Z H0 L Γ W (tSl (rSlU K) te tNoPart (tPart tk)) (fun d => ∃ (ds : List Dt) (j : Nat), d = .lst (cutD ds none (some (j : Int))) ∧ PB ds ∧ PJ j) := fun σ H a Q k =>
  h σ H a _ fun d x H1 p1 g1 j1 i1 => h2 σ H1 (a.step g1 j1) _ fun d2 x2 H2 p2 g2 j2 i2 => by
    obtain ⟨ds, rfl, i, pb⟩ := p1
    obtain ⟨j, rfl, pj⟩ := p2
    cases i2
    refine ⟨_, rfl, ?_⟩
    have ic : ∀ q ∈ cutD ds none (some (j : Int)), Imm q := fun q hq => i.all q (List.mem_of_mem_drop (List.mem_of_mem_take hq))
    have g4 := g1.trans g2
    cases i1.mono g2 with
    | lst hx nx lx =>
      refine .inl ⟨_, _, rfl, SqL.of hx, fun p hp => ?_⟩
      refine fin_ex (P := fun d => ∃ (ds : List Dt) (j : Nat), d = .lst (cutD ds none (some (j : Int))) ∧ PB ds ∧ PJ j) (d := .lst (cutD ds none (some (j : Int)))) a g4 j2 (Ex.new hp) (.lst upd_same (fun m => m hp) ?_) ⟨ds, j, rfl, pb, pj⟩ k
      exact (immL_any ic K _ (fun _ => False) _ _ (lx.cut none (some (j : Int)))).mono (Gm.new hp) |> immL_any ic K _ _ _ _
/-- x, y = e, []: by a tuple; the second a list of one's own -/
theorem q_asgTO {i j : Nat} (a : At K Z H0 L Γ σ H) (h : EVA K Z H0 L Γ wF ta (Eq [d, .lst ds])) (hd : Imm d) (hi : ImmL ds) (k : ∀ l σ' H', H0 l = none → At K Z H0 ((l, ds) :: L) ((Γ.set i (some d)).set j (some (.raw (.ref l)))) σ' H' → tz D σ' H') :
    tSeq (tAsg (tTup ta) (gTup K 2 (gCons (gName i) (gCons (gName j) gNil)))) tz D σ H :=
  h σ H a _ fun es vs H' p g jj x => by
    subst p
    cases x with
    | cons x1 x =>
      cases x with
      | cons x2 x =>
        cases x
        cases x2 with
        | lst e n l =>
          rename_i v b xs
          have hl : H b = none := Classical.byContradiction n
          refine ⟨show 2 ≤ sizeLine by decide, fun T hT => ⟨T, [v, .ref b], rfl, SqT.of upd_same, rfl, v, [.ref b], rfl, .ref b, [], rfl, rfl, ?_⟩⟩
          have a1 := a.step g jj
          obtain ⟨g2, j2⟩ := a1.ex (Ex.new (p := T) (o := .tup [v, .ref b]) hT)
          have nb : b ≠ T := fun q => by
            rw [q, hT] at e
            cases e
          have e' : upd H' T (.tup [v, .ref b]) b = some (.lst xs) := by rw [upd_ne nb]; exact e
          have m2 : Gm (fun c => H c ≠ none) H' (upd H' T (.tup [v, .ref b])) := Gm.ofEx (Ex.new hT)
          exact k b _ _ (a.base_none hl) (((a.own_new (g.trans g2) j2 hl e' (l.mono m2) hi).set i (hd.any _ _ _ _ _ (x1.mono m2))).set j (.raw _))
end
end Ly
theorem L2.Room.units65 {k : Nat} {A : PySem.Around} (r : L2.Room k A) : A.units + 65 < PySem.cLine := by have := r.un; omega
end
section
set_option autoImplicit false
namespace Mx
theorem find_hit {α : Type} {q : α → Bool} : ∀ {l : List α} {i : Nat} {x : α}, (∀ (j : Nat) (y : α), j < i → l[j]? = some y → q y = false) → l[i]? = some x → q x = true → l.find? q = some x
  | [], _, _, _, h, _ => by simp at h
  | y :: l, 0, x, _, h, hq => by
    cases h
    rw [List.find?_cons, hq]
  | y :: l, i + 1, x, hn, h, hq => by
    have h0 := hn 0 y (Nat.succ_pos i) rfl
    rw [List.find?_cons, h0]
    exact find_hit (i := i) (fun j z hj hz => hn (j + 1) z (Nat.succ_lt_succ hj) (by simpa using hz)) (by simpa using h) hq
theorem find_miss {α : Type} {q : α → Bool} {l : List α} (h : ∀ (j : Nat) (y : α), l[j]? = some y → q y = false) : l.find? q = none := by
  rw [List.find?_eq_none]
  intro x hx
  obtain ⟨j, hj⟩ := List.mem_iff_getElem?.mp hx
  rw [h j x hj]
  exact Bool.false_ne_true
end Mx
end
section
set_option autoImplicit false
namespace Mx
/-! ### rows of numbers below p -/
abbrev Row := List Int
/-- the i-th entry -/
def e (r : Row) (i : Nat) : Int := r.getD i 0
structure Ok (p m : Nat) (r : Row) : Prop where
  len : r.length = m
  rng : ∀ x ∈ r, 0 ≤ x ∧ x < p
def scM (p : Nat) (k : Int) (r : Row) : Row := r.map fun x => k * x % p
def subM (p : Nat) (r s : Row) : Row := List.zipWith (fun x y => (x - y) % p) r s
def pivM (r : Row) : Option Nat := r.findIdx? fun x => decide (x ≠ 0)
/-- the first place that is not 0 -/
def Pv (r : Row) (i : Nat) : Prop := e r i ≠ 0 ∧ ∀ j, j < i → e r j = 0
theorem e_lt {r : Row} {i : Nat} (h : i < r.length) : e r i = r[i] := by
  unfold e
  rw [List.getD_eq_getElem?_getD, List.getElem?_eq_getElem h]
  rfl
theorem e_ge {r : Row} {i : Nat} (h : r.length ≤ i) : e r i = 0 := by
  unfold e
  rw [List.getD_eq_getElem?_getD, List.getElem?_eq_none h]
  rfl
theorem e_ext {r s : Row} (hl : r.length = s.length) (h : ∀ i, e r i = e s i) : r = s := by
  refine List.ext_getElem hl fun i h1 h2 => ?_
  rw [← e_lt h1, ← e_lt h2]
  exact h i
theorem Ok.e {p m : Nat} {r : Row} (o : Ok p m r) (hp : 0 < p) (i : Nat) : 0 ≤ e r i ∧ e r i < p := by
  by_cases h : i < r.length
  · rw [e_lt h]
    exact o.rng _ (List.getElem_mem h)
  · rw [e_ge (Nat.le_of_not_lt h)]
    omega
theorem Ok.of {p m : Nat} {r : Row} (hl : r.length = m) (h : ∀ i, 0 ≤ Mx.e r i ∧ Mx.e r i < p) : Ok p m r := ⟨hl, fun x hx => by
  obtain ⟨i, hi, rfl⟩ := List.getElem_of_mem hx
  rw [← e_lt hi]
  exact h i⟩
theorem e_scM (p : Nat) (k : Int) (r : Row) (i : Nat) : e (scM p k r) i = k * e r i % p := by
  by_cases h : i < r.length
  · rw [e_lt (by unfold scM; rw [List.length_map]; exact h), e_lt h]
    unfold scM
    rw [List.getElem_map]
  · rw [e_ge (by unfold scM; rw [List.length_map]; omega), e_ge (by omega)]
    simp
theorem len_scM (p : Nat) (k : Int) (r : Row) : (scM p k r).length = r.length := List.length_map ..
theorem len_sub {p : Nat} {r s : Row} (h : r.length = s.length) : (subM p r s).length = r.length := by
  unfold subM
  rw [List.length_zipWith]
  omega
theorem e_sub {p : Nat} {r s : Row} (hl : r.length = s.length) (i : Nat) : e (subM p r s) i = (e r i - e s i) % p := by
  by_cases h : i < r.length
  · rw [e_lt (by rw [len_sub hl]; exact h), e_lt h, e_lt (hl ▸ h)]
    unfold subM
    rw [List.getElem_zipWith]
  · rw [e_ge (by rw [len_sub hl]; omega), e_ge (by omega), e_ge (by omega)]
    simp
theorem Ok.scM {p m : Nat} {r : Row} (hp : 0 < p) (hl : r.length = m) (k : Int) : Ok p m (Mx.scM p k r) :=
  .of (by rw [len_scM, hl]) fun i => by
    rw [e_scM]
    exact ⟨Int.emod_nonneg _ (by omega), Int.emod_lt_of_pos _ (by omega)⟩
theorem Ok.sub {p m : Nat} {r s : Row} (hp : 0 < p) (hl : r.length = m) (hs : s.length = m) : Ok p m (subM p r s) :=
  .of (by rw [len_sub (hl.trans hs.symm), hl]) fun i => by
    rw [e_sub (hl.trans hs.symm)]
    exact ⟨Int.emod_nonneg _ (by omega), Int.emod_lt_of_pos _ (by omega)⟩
theorem piv_some {r : Row} {i : Nat} : pivM r = some i ↔ Pv r i := by
  unfold pivM Pv
  rw [List.findIdx?_eq_some_iff_getElem]
  constructor
  · rintro ⟨h, h1, h2⟩
    refine ⟨by rw [e_lt h]; simpa using h1, fun j hj => ?_⟩
    rw [e_lt (Nat.lt_trans hj h)]
    simpa using h2 j hj
  · rintro ⟨h1, h2⟩
    have h : i < r.length := Nat.lt_of_not_le fun q => h1 (e_ge q)
    refine ⟨h, by rw [e_lt h] at h1; simpa using h1, fun j hj => ?_⟩
    have := h2 j hj
    rw [e_lt (Nat.lt_trans hj h)] at this
    simpa using this
theorem piv_none {r : Row} : pivM r = none ↔ ∀ i, e r i = 0 := by
  unfold pivM
  rw [List.findIdx?_eq_none_iff]
  constructor
  · intro h i
    by_cases q : i < r.length
    · rw [e_lt q]
      simpa using h _ (List.getElem_mem q)
    · exact e_ge (Nat.le_of_not_lt q)
  · intro h x hx
    obtain ⟨i, hi, rfl⟩ := List.getElem_of_mem hx
    rw [← e_lt hi, h i]
    decide
theorem Pv.lt {r : Row} {i : Nat} (h : Pv r i) : i < r.length := Nat.lt_of_not_le fun q => h.1 (e_ge q)
theorem Pv.uniq {r : Row} {i j : Nat} (h : Pv r i) (k : Pv r j) : i = j := by
  rcases Nat.lt_trichotomy i j with q | q | q
  · exact absurd (k.2 i q) h.1
  · exact q
  · exact absurd (h.2 j q) k.1
/-! ### reducing -/
/-- left with the pivot's entry of own made 0 -/
def stepM (p : Nat) (left own : Row) : Row := subM p left (scM p (e left ((pivM own).getD 0)) own)
def withoutM (p : Nat) (row : Row) (base : List Row) : Row := base.foldl (stepM p) row
def invM (p : Nat) (a : Int) : Option Int := ((List.range (p - 1)).map fun i : Nat => 1 + (i : Int)).find? fun x => decide (a * x % p = 1)
def addM (p : Nat) (found : List Row) (row : Row) : List Row :=
  let left := withoutM p row found
  match pivM left with
  | none => found
  | some i =>
    let new := scM p ((invM p (e left i)).getD 0) left
    found.map (fun own => stepM p own new) ++ [new]
def rawM (p : Nat) (rows : List Row) : List Row := rows.foldl (addM p) []
/-- own and other: each has 0 at the pivot of the other -/
def Apart (r s : Row) : Prop := (∀ i, Pv r i → e s i = 0) ∧ ∀ i, Pv s i → e r i = 0
structure Ech (p m : Nat) (c : List Row) : Prop where
  ok : ∀ r ∈ c, Ok p m r
  one : ∀ r ∈ c, ∃ i, Pv r i ∧ e r i = 1
  apart : c.Pairwise Apart
theorem Ech.nil {p m : Nat} : Ech p m [] := ⟨fun _ h => by simp at h, fun _ h => by simp at h, .nil⟩
theorem Ech.tail {p m : Nat} {r : Row} {c : List Row} (h : Ech p m (r :: c)) : Ech p m c := ⟨fun s q => h.ok s (List.mem_cons_of_mem _ q), fun s q => h.one s (List.mem_cons_of_mem _ q), (List.pairwise_cons.mp h.apart).2⟩
theorem e_step {p m : Nat} {l own : Row} {i : Nat} (hl : l.length = m) (ho : own.length = m) (hi : Pv own i) (j : Nat) : e (stepM p l own) j = (e l j - e l i * e own j % p) % p := by
  unfold stepM
  rw [e_sub (by rw [len_scM, hl, ho]), e_scM, piv_some.mpr hi]
  rfl
theorem ok_step {p m : Nat} {l own : Row} (hp : 0 < p) (hl : l.length = m) (ho : own.length = m) : Ok p m (stepM p l own) := .sub hp hl (by rw [len_scM, ho])
theorem mod_self {p : Nat} {x : Int} (h : 0 ≤ x ∧ x < p) : x % p = x := Int.emod_eq_of_lt h.1 h.2
/-- a place where own has 0 stays -/
theorem step_keep {p m : Nat} {l own : Row} {i j : Nat} (hp : 0 < p) (ol : Ok p m l) (ho : own.length = m) (hi : Pv own i) (hj : e own j = 0) : e (stepM p l own) j = e l j := by
  rw [e_step ol.len ho hi, hj, Int.mul_zero, Int.zero_emod, Int.sub_zero]
  exact mod_self (ol.e hp j)
theorem step_zero {p m : Nat} {l own : Row} {i : Nat} (hp : 0 < p) (ol : Ok p m l) (ho : own.length = m) (hi : Pv own i) (h1 : e own i = 1) : e (stepM p l own) i = 0 := by
  rw [e_step ol.len ho hi, h1, Int.mul_one, mod_self (ol.e hp i), Int.sub_self, Int.zero_emod]
theorem ok_without {p m : Nat} (hp : 0 < p) : ∀ {c : List Row} {row : Row}, Ok p m row → (∀ r ∈ c, r.length = m) → Ok p m (withoutM p row c)
  | [], _, o, _ => o
  | r :: c, row, o, h => by
    show Ok p m (withoutM p (stepM p row r) c)
    exact ok_without hp (ok_step hp o.len (h r (List.mem_cons_self ..))) fun s q => h s (List.mem_cons_of_mem _ q)
theorem without_keep {p m : Nat} (hp : 0 < p) {j : Nat} : ∀ {c : List Row} {row : Row}, Ech p m c → Ok p m row → (∀ r ∈ c, e r j = 0) → e (withoutM p row c) j = e row j
  | [], _, _, _, _ => rfl
  | r :: c, row, h, o, hj => by
    obtain ⟨i, hi, _⟩ := h.one r (List.mem_cons_self ..)
    have ho := (h.ok r (List.mem_cons_self ..)).len
    show e (withoutM p (stepM p row r) c) j = _
    rw [without_keep hp h.tail (ok_step hp o.len ho) fun s q => hj s (List.mem_cons_of_mem _ q)]
    exact step_keep hp o ho hi (hj r (List.mem_cons_self ..))
/-- nothing is left at the pivots of c -/
theorem without_zero {p m : Nat} (hp : 0 < p) {s : Row} {j : Nat} : ∀ {c : List Row} {row : Row}, Ech p m c → Ok p m row → s ∈ c → Pv s j → e (withoutM p row c) j = 0
  | [], _, _, _, hs, _ => by simp at hs
  | r :: c, row, h, o, hs, hj => by
    obtain ⟨i, hi, h1⟩ := h.one r (List.mem_cons_self ..)
    have ho := (h.ok r (List.mem_cons_self ..)).len
    have o2 := ok_step (l := row) hp o.len ho
    show e (withoutM p (stepM p row r) c) j = 0
    rcases List.mem_cons.mp hs with q | q
    · subst q
      have ij : i = j := hi.uniq hj
      subst ij
      rw [without_keep hp h.tail o2 fun t ht => ((List.pairwise_cons.mp h.apart).1 t ht).1 i hi]
      exact step_zero hp o ho hi h1
    · exact without_zero hp h.tail o2 q hj
/-! ### a prime -/
def noDiv (v f : Nat) : Prop := ∀ g, f ≤ g → g * g ≤ v → v % g ≠ 0
structure Pr (p : Nat) : Prop where
  two : 2 ≤ p
  no : noDiv p 2
theorem bezout (a b : Nat) : ∃ x y : Int, a * x + b * y = Nat.gcd a b := by
  induction a, b using Nat.gcd.induction with
  | H0 n => exact ⟨0, 1, by simp⟩
  | H1 m n hm ih =>
    obtain ⟨x, y, h⟩ := ih
    rw [Nat.gcd_rec]
    refine ⟨y - (n / m : Nat) * x, x, ?_⟩
    rw [← h]
    have e1 : (n : Int) = m * (n / m : Nat) + (n % m : Nat) := by
      have := Nat.div_add_mod n m
      omega
    rw [Int.mul_sub]
    have e2 : ((n : Int)) * x = (m : Int) * (n / m : Nat) * x + (n % m : Nat) * x := by
      rw [← Int.add_mul, ← e1]
    rw [e2, Int.mul_assoc]
    omega
theorem Pr.coprime {p : Nat} (h : Pr p) {a : Nat} (h1 : 0 < a) (h2 : a < p) : Nat.gcd a p = 1 := by
  have g1 : Nat.gcd a p ∣ p := Nat.gcd_dvd_right a p
  have g2 : Nat.gcd a p ≤ a := Nat.le_of_dvd h1 (Nat.gcd_dvd_left a p)
  have g3 : 0 < Nat.gcd a p := Nat.gcd_pos_of_pos_left p h1
  generalize Nat.gcd a p = g at *
  obtain ⟨k, hk⟩ := g1
  by_cases q : g = 1
  · exact q
  · exfalso
    have g4 : 2 ≤ g := by omega
    have k2 : 2 ≤ k := by
      rcases Nat.lt_or_ge k 2 with z | z
      · have : k = 0 ∨ k = 1 := by omega
        rcases this with z | z
        · subst z; simp at hk; omega
        · subst z; simp at hk; omega
      · exact z
    rcases Nat.le_total g k with z | z
    · refine h.no g g4 ?_ ?_
      · rw [hk]; exact Nat.mul_le_mul_left g z
      · rw [hk]; exact Nat.mul_mod_right g k
    · refine h.no k k2 ?_ ?_
      · rw [hk]; exact Nat.mul_le_mul_right k z
      · rw [hk]; exact Nat.mul_mod_left g k
theorem Pr.inv {p : Nat} (h : Pr p) {a : Int} (h1 : 0 < a) (h2 : a < p) : ∃ x : Int, 1 ≤ x ∧ x < p ∧ a * x % p = 1 := by
  have e1 : a = (a.toNat : Int) := by omega
  obtain ⟨x, y, hxy⟩ := bezout a.toNat p
  rw [h.coprime (by omega) (by omega)] at hxy
  have tp := h.two
  have hm : a * (x % p) % p = 1 := by
    rw [Int.mul_emod, Int.emod_emod, ← Int.mul_emod, e1]
    have : (a.toNat : Int) * x = 1 + p * (-y) := by
      have : (p : Int) * (-y) = - (p * y) := by rw [Int.mul_neg]
      omega
    rw [this, Int.add_mul_emod_self_left]
    exact Int.emod_eq_of_lt (by omega) (by omega)
  refine ⟨x % p, ?_, Int.emod_lt_of_pos _ (by omega), hm⟩
  have h0 : 0 ≤ x % p := Int.emod_nonneg _ (by omega)
  by_cases q : x % p < 1
  · have : x % p = 0 := by omega
    rw [this] at hm
    simp at hm
  · omega
theorem Pr.invM {p : Nat} (h : Pr p) {a : Int} (h1 : 0 < a) (h2 : a < p) : ∃ x : Int, Mx.invM p a = some x ∧ 1 ≤ x ∧ x < p ∧ a * x % p = 1 := by
  obtain ⟨x, x1, x2, x3⟩ := h.inv h1 h2
  unfold Mx.invM
  cases q : (((List.range (p - 1)).map fun i : Nat => 1 + (i : Int)).find? fun x => decide (a * x % p = 1)) with
  | none =>
    rw [List.find?_eq_none] at q
    have := q x (List.mem_map.mpr ⟨(x - 1).toNat, List.mem_range.mpr (by omega), by omega⟩)
    simp [x3] at this
  | some y =>
    have h3 := List.find?_some q
    obtain ⟨i, hi, rfl⟩ := List.mem_map.mp (List.mem_of_find?_eq_some q)
    have hi := List.mem_range.mp hi
    exact ⟨_, rfl, by omega, by omega, of_decide_eq_true h3⟩
/-! ### a row more -/
theorem Ech.pv {p m : Nat} {c : List Row} (h : Ech p m c) {r : Row} (hr : r ∈ c) {i : Nat} (hi : Pv r i) : e r i = 1 := by
  obtain ⟨j, h1, h2⟩ := h.one r hr
  rw [hi.uniq h1]
  exact h2
theorem ech_map {p m i : Nat} {new : Row} (hp : 0 < p) (on : Ok p m new) (hi : Pv new i) (h1 : e new i = 1) : ∀ {c : List Row}, Ech p m c → (∀ r ∈ c, ∀ j, Pv r j → e new j = 0) →
    Ech p m (c.map (fun own => stepM p own new)) ∧ ∀ r ∈ c, ∃ j, Pv r j ∧ Pv (stepM p r new) j ∧ e (stepM p r new) j = 1 ∧ e (stepM p r new) i = 0
  | [], _, _ => ⟨.nil, fun _ h => by simp at h⟩
  | r :: c, h, hz => by
    obtain ⟨ih1, ih2⟩ := ech_map hp on hi h1 h.tail fun s hs => hz s (List.mem_cons_of_mem _ hs)
    have ho := h.ok r (List.mem_cons_self ..)
    obtain ⟨j, hj, hj1⟩ := h.one r (List.mem_cons_self ..)
    have nj := hz r (List.mem_cons_self ..) j hj
    have oj : e (stepM p r new) j = 1 := by rw [step_keep hp ho on.len hi nj]; exact hj1
    have oi : e (stepM p r new) i = 0 := step_zero hp ho on.len hi h1
    have pj : Pv (stepM p r new) j := ⟨by rw [oj]; decide, fun k hk => by
      rw [e_step ho.len on.len hi, hj.2 k hk]
      by_cases q : k < i
      · rw [hi.2 k q, Int.mul_zero, Int.zero_emod]; rfl
      · rw [hj.2 i (by omega), Int.zero_mul, Int.zero_emod]; rfl⟩
    refine ⟨⟨fun s hs => ?_, fun s hs => ?_, ?_⟩, fun s hs => ?_⟩
    · rcases List.mem_cons.mp hs with q | q
      · rw [q]; exact ok_step hp ho.len on.len
      · exact ih1.ok s q
    · rcases List.mem_cons.mp hs with q | q
      · rw [q]; exact ⟨j, pj, oj⟩
      · exact ih1.one s q
    · rw [List.map_cons, List.pairwise_cons]
      refine ⟨fun s hs => ?_, ih1.apart⟩
      obtain ⟨t, ht, rfl⟩ := List.mem_map.mp hs
      obtain ⟨k, hk, pk, _, _⟩ := ih2 t ht
      have ot := h.ok t (List.mem_cons_of_mem _ ht)
      have ap := (List.pairwise_cons.mp h.apart).1 t ht
      refine ⟨fun a ha => ?_, fun a ha => ?_⟩
      · rw [ha.uniq pj, step_keep hp ot on.len hi nj]
        exact ap.1 j hj
      · rw [ha.uniq pk, step_keep hp ho on.len hi (hz t (List.mem_cons_of_mem _ ht) k hk)]
        exact ap.2 k hk
    · rcases List.mem_cons.mp hs with q | q
      · rw [q]; exact ⟨j, hj, pj, oj, oi⟩
      · exact ih2 s q
/-- the new row, made 1 at its pivot -/
theorem new_row {p m i : Nat} (h : Pr p) {left : Row} (ol : Ok p m left) (hi : Pv left i) : ∃ x : Int, invM p (e left i) = some x ∧ 1 ≤ x ∧ x < p ∧ Ok p m (scM p x left) ∧ Pv (scM p x left) i ∧ e (scM p x left) i = 1 := by
  have hp : 0 < p := Nat.lt_of_lt_of_le (by decide) h.two
  have r := ol.e hp i
  have n := hi.1
  obtain ⟨x, e1, x1, x2, e2⟩ := h.invM (a := e left i) (by omega) r.2
  have oi : e (scM p x left) i = 1 := by rw [e_scM, Int.mul_comm]; exact e2
  refine ⟨x, e1, x1, x2, .scM hp ol.len x, ⟨by rw [oi]; decide, fun j hj => ?_⟩, oi⟩
  rw [e_scM, hi.2 j hj, Int.mul_zero, Int.zero_emod]
theorem add_none {p : Nat} {found : List Row} {row : Row} (h : pivM (withoutM p row found) = none) : addM p found row = found := by
  unfold addM
  simp only [h]
theorem add_some {p i : Nat} {found : List Row} {row : Row} (h : pivM (withoutM p row found) = some i) :
    addM p found row = found.map (fun own => stepM p own (scM p ((invM p (e (withoutM p row found) i)).getD 0) (withoutM p row found))) ++ [scM p ((invM p (e (withoutM p row found) i)).getD 0) (withoutM p row found)] := by
  unfold addM
  simp only [h]
theorem add_ech {p m : Nat} (h : Pr p) {found : List Row} {row : Row} (c : Ech p m found) (o : Ok p m row) : Ech p m (addM p found row) := by
  have hp : 0 < p := Nat.lt_of_lt_of_le (by decide) h.two
  have ol := ok_without hp o fun r hr => (c.ok r hr).len
  cases q : pivM (withoutM p row found) with
  | none => rw [add_none q]; exact c
  | some i =>
    have hi := piv_some.mp q
    obtain ⟨x, e1, _, _, on, pn, oi⟩ := new_row h ol hi
    rw [add_some q, e1]
    show Ech p m (found.map (fun own => stepM p own (scM p x (withoutM p row found))) ++ [scM p x (withoutM p row found)])
    obtain ⟨m1, m2⟩ := ech_map hp on pn oi c fun r hr j hj => by
      rw [e_scM, without_zero hp c o hr hj, Int.mul_zero, Int.zero_emod]
    refine ⟨fun s hs => ?_, fun s hs => ?_, ?_⟩
    · rcases List.mem_append.mp hs with q | q
      · exact m1.ok s q
      · rw [List.mem_singleton.mp q]; exact on
    · rcases List.mem_append.mp hs with q | q
      · exact m1.one s q
      · rw [List.mem_singleton.mp q]; exact ⟨i, pn, oi⟩
    · rw [List.pairwise_append]
      refine ⟨m1.apart, List.pairwise_singleton _ _, fun s hs t ht => ?_⟩
      rw [List.mem_singleton.mp ht]
      obtain ⟨r, hr, rfl⟩ := List.mem_map.mp hs
      obtain ⟨j, hj, pj, _, zi⟩ := m2 r hr
      refine ⟨fun a ha => ?_, fun a ha => ?_⟩
      · rw [ha.uniq pj, e_scM, without_zero hp c o hr hj, Int.mul_zero, Int.zero_emod]
      · rw [ha.uniq pn]; exact zi
theorem raw_ech' {p m : Nat} (h : Pr p) : ∀ {rows found : List Row}, Ech p m found → (∀ r ∈ rows, Ok p m r) → Ech p m (rows.foldl (addM p) found)
  | [], _, c, _ => c
  | r :: rows, found, c, o => by
    show Ech p m (rows.foldl (addM p) (addM p found r))
    exact raw_ech' h (add_ech h c (o r (List.mem_cons_self ..))) fun s hs => o s (List.mem_cons_of_mem _ hs)
theorem raw_ech {p m : Nat} (h : Pr p) {rows : List Row} (o : ∀ r ∈ rows, Ok p m r) : Ech p m (rawM p rows) := raw_ech' h .nil o
theorem len_add {p : Nat} (found : List Row) (row : Row) : (addM p found row).length ≤ found.length + 1 := by
  cases q : pivM (withoutM p row found) with
  | none => rw [add_none q]; omega
  | some i => rw [add_some q, List.length_append, List.length_map]; exact Nat.le_refl _
theorem len_raw' {p : Nat} : ∀ (rows found : List Row), (rows.foldl (addM p) found).length ≤ found.length + rows.length
  | [], _ => Nat.le_refl _
  | r :: rows, found => by
    have h1 := len_raw' (p := p) rows (addM p found r)
    have h2 := len_add (p := p) found r
    show (rows.foldl (addM p) (addM p found r)).length ≤ _
    rw [List.length_cons]
    omega
theorem len_raw {p : Nat} (rows : List Row) : (rawM p rows).length ≤ rows.length := by
  have := len_raw' (p := p) rows []
  simpa [rawM] using this
/-! ### sorted -/
def srt (rows : List Row) : List Row := rows.mergeSort fun x y => decide (y ≤ x)
def redM (p : Nat) (rows : List Row) : List Row := srt (rawM p rows)
theorem srt_perm (rows : List Row) : (srt rows).Perm rows := List.mergeSort_perm _ _
theorem Apart.symm {r s : Row} (h : Apart r s) : Apart s r := ⟨h.2, h.1⟩
theorem Ech.perm {p m : Nat} {c d : List Row} (h : Ech p m c) (q : d.Perm c) : Ech p m d :=
  ⟨fun r hr => h.ok r (q.mem_iff.mp hr), fun r hr => h.one r (q.mem_iff.mp hr), (q.pairwise_iff fun x => Apart.symm x).mpr h.apart⟩
theorem red_ech {p m : Nat} (h : Pr p) {rows : List Row} (o : ∀ r ∈ rows, Ok p m r) : Ech p m (redM p rows) := (raw_ech h o).perm (srt_perm _)
theorem len_red {p : Nat} (rows : List Row) : (redM p rows).length ≤ rows.length := by
  unfold redM
  rw [(srt_perm _).length_eq]
  exact len_raw rows
end Mx
end
section
set_option autoImplicit false
namespace Mx
theorem nodup_len : ∀ (n : Nat) (l : List Nat), l.Nodup → (∀ x ∈ l, x < n) → l.length ≤ n
  | 0, l, _, h => by
    cases l with
    | nil => exact Nat.le_refl _
    | cons x l => exact absurd (h x (List.mem_cons_self ..)) (Nat.not_lt_zero _)
  | n + 1, l, nd, h => by
    by_cases q : n ∈ l
    · have h1 := nodup_len n (l.erase n) (nd.erase n) fun x hx => by
        have h2 := h x (List.mem_of_mem_erase hx)
        have h3 : x ≠ n := fun z => by
          subst z
          exact (List.Nodup.not_mem_erase nd) hx
        omega
      rw [List.length_erase_of_mem q] at h1
      omega
    · have h1 := nodup_len n l nd fun x hx => by
        have h2 := h x hx
        have h3 : x ≠ n := fun z => q (z ▸ hx)
        omega
      omega
/-- the pivots of a code -/
def pvs (c : List Row) : List Nat := c.map fun r => (pivM r).getD 0
theorem pvs_mem {p m : Nat} {c : List Row} (h : Ech p m c) {i : Nat} : i ∈ pvs c ↔ ∃ r ∈ c, Pv r i := by
  unfold pvs
  rw [List.mem_map]
  constructor
  · rintro ⟨r, hr, e⟩
    obtain ⟨j, hj, _⟩ := h.one r hr
    rw [piv_some.mpr hj] at e
    exact ⟨r, hr, by rw [← e]; exact hj⟩
  · rintro ⟨r, hr, hi⟩
    exact ⟨r, hr, by rw [piv_some.mpr hi]; rfl⟩
theorem pvs_nodup {p m : Nat} : ∀ {c : List Row}, Ech p m c → (pvs c).Nodup
  | [], _ => List.nodup_nil
  | r :: c, h => by
    show ((pivM r).getD 0 :: pvs c).Nodup
    rw [List.nodup_cons]
    refine ⟨fun q => ?_, pvs_nodup h.tail⟩
    obtain ⟨s, hs, hp⟩ := (pvs_mem h.tail).mp q
    obtain ⟨j, hj, _⟩ := h.one r (List.mem_cons_self ..)
    rw [piv_some.mpr hj] at hp
    have := ((List.pairwise_cons.mp h.apart).1 s hs).1 j hj
    exact hp.1 this
theorem Ech.len {p m : Nat} {c : List Row} (h : Ech p m c) : c.length ≤ m := by
  have := nodup_len m (pvs c) (pvs_nodup h) fun i hi => by
    obtain ⟨r, hr, hp⟩ := (pvs_mem h).mp hi
    rw [← (h.ok r hr).len]
    exact hp.lt
  unfold pvs at this
  rwa [List.length_map] at this
end Mx
end
section
set_option autoImplicit false
namespace Mx
/-! ### the law's own reducing -/
def plusM (p : Nat) (r : Row) (t : Int) (s : Row) : Row := List.zipWith (fun x y => (x + t * y) % p) r s
theorem len_plus {p : Nat} {r s : Row} {t : Int} (h : r.length = s.length) : (plusM p r t s).length = r.length := by
  unfold plusM
  rw [List.length_zipWith]
  omega
theorem e_plus {p : Nat} {r s : Row} {t : Int} (hl : r.length = s.length) (i : Nat) : e (plusM p r t s) i = (e r i + t * e s i) % p := by
  by_cases h : i < r.length
  · rw [e_lt (by rw [len_plus hl]; exact h), e_lt h, e_lt (hl ▸ h)]
    unfold plusM
    rw [List.getElem_zipWith]
  · rw [e_ge (by rw [len_plus hl]; omega), e_ge (by omega), e_ge (by omega)]
    simp
theorem sub_mod_mod (a b : Int) (p : Nat) : (a - b % p) % p = (a - b) % p := by
  rw [Int.sub_emod, Int.emod_emod, ← Int.sub_emod]
theorem plus_step {p m i : Nat} {l own : Row} (hl : l.length = m) (ho : own.length = m) (hi : Pv own i) : plusM p l (0 - e l i) own = stepM p l own := by
  have h1 : (stepM p l own).length = l.length := by
    unfold stepM
    exact len_sub (by rw [len_scM, hl, ho])
  refine e_ext (by rw [len_plus (hl.trans ho.symm), h1]) fun j => ?_
  rw [e_plus (hl.trans ho.symm), e_step hl ho hi, sub_mod_mod]
  congr 1
  rw [Int.zero_sub, Int.neg_mul]
  omega
theorem plus_zero {p : Nat} {x : Int} {l : Row} : plusM p (List.replicate l.length 0) x l = scM p x l := by
  refine e_ext (by rw [len_plus (by rw [List.length_replicate]), len_scM, List.length_replicate]) fun j => ?_
  rw [e_plus (by rw [List.length_replicate]), e_scM]
  have : e (List.replicate l.length 0) j = 0 := by
    by_cases h : j < l.length
    · rw [e_lt (by rw [List.length_replicate]; exact h), List.getElem_replicate]
    · exact e_ge (by rw [List.length_replicate]; omega)
  rw [this, Int.zero_add]
theorem invM_range {p : Nat} (hp : 2 ≤ p) (a : Int) : ((List.range p).map fun i : Nat => (i : Int)).find? (fun x => decide (x * a % p = 1)) = invM p a := by
  have e1 : List.range p = 0 :: (List.range (p - 1)).map Nat.succ := by
    rw [← List.range_succ_eq_map, show p - 1 + 1 = p by omega]
  unfold invM
  rw [e1, List.map_cons, List.find?_cons]
  have : decide (((0 : Nat) : Int) * a % p = 1) = false := by simp
  rw [this]
  show List.find? _ _ = _
  rw [List.map_map]
  have e2 : ((fun i : Nat => (i : Int)) ∘ Nat.succ) = fun i : Nat => 1 + (i : Int) := by
    funext i
    show ((i + 1 : Nat) : Int) = _
    omega
  rw [e2]
  congr 1
  funext x
  rw [Int.mul_comm]
/-! ### sorting, either way -/
theorem eq_of_sorted {l m : List Row} : ∀ (_ : l.Pairwise fun x y => y ≤ x) (_ : m.Pairwise fun x y => y ≤ x) (_ : l.Perm m), l = m := by
  induction l generalizing m with
  | nil => intro _ _ h; exact (List.Perm.eq_nil h.symm).symm
  | cons x l ih =>
    intro h1 h2 h
    cases m with
    | nil => exact absurd h.length_eq (by simp)
    | cons y m =>
      have h1' := List.pairwise_cons.mp h1
      have h2' := List.pairwise_cons.mp h2
      have exy : x = y := by
        have a : y ≤ x := by
          rcases List.mem_cons.mp (h.mem_iff.mpr (List.mem_cons_self (a := y) (l := m))) with q | q
          · rw [q]; exact List.le_refl _
          · exact h1'.1 y q
        have b : x ≤ y := by
          rcases List.mem_cons.mp (h.mem_iff.mp (List.mem_cons_self (a := x) (l := l))) with q | q
          · rw [q]; exact List.le_refl _
          · exact h2'.1 x q
        exact List.le_antisymm b a
      subst exy
      rw [ih h1'.2 h2'.2 h.cons_inv]
theorem srt_sorted (rows : List Row) : (srt rows).Pairwise fun x y => y ≤ x := by
  have := List.pairwise_mergeSort (le := fun x y : Row => decide (y ≤ x)) (fun a b c h1 h2 => by
    simp only [decide_eq_true_eq] at *
    exact List.le_trans h2 h1) (fun a b => by
    simp only [Bool.or_eq_true, decide_eq_true_eq]
    exact List.le_total b a) rows
  exact this.imp fun h => of_decide_eq_true h
theorem srt_rev (rows : List Row) : (rows.mergeSort fun x y => decide (x ≤ y)).reverse = srt rows := by
  refine eq_of_sorted ?_ (srt_sorted rows) ?_
  · rw [List.pairwise_reverse]
    have := List.pairwise_mergeSort (le := fun x y : Row => decide (x ≤ y)) (fun a b c h1 h2 => by
      simp only [decide_eq_true_eq] at *
      exact List.le_trans h1 h2) (fun a b => by
      simp only [Bool.or_eq_true, decide_eq_true_eq]
      exact List.le_total a b) rows
    exact this.imp fun h => of_decide_eq_true h
  · exact (List.reverse_perm _).trans ((List.mergeSort_perm _ _).trans (srt_perm rows).symm)
/-! ### pivots go up in a sorted code -/
theorem lt_of_first {r s : Row} {i : Nat} (hl : r.length = s.length) (h : ∀ j, j < i → e r j = e s j) (hi : e r i < e s i) : r < s := by
  induction r generalizing s i with
  | nil =>
    cases s with
    | nil => simp [e] at hi
    | cons y s => simp at hl
  | cons x r ih =>
    cases s with
    | nil => simp at hl
    | cons y s =>
      rw [List.cons_lt_cons_iff]
      cases i with
      | zero => exact .inl hi
      | succ i =>
        have h0 : x = y := h 0 (Nat.succ_pos i)
        exact .inr ⟨h0, ih (by simpa using hl) (fun j hj => h (j + 1) (Nat.succ_lt_succ hj)) hi⟩
theorem srt_piv {p m : Nat} {c : List Row} (h : Ech p m c) {i k : Nat} {r s : Row} (hik : i < k) (hr : (srt c)[i]? = some r) (hs : (srt c)[k]? = some s) {a b : Nat} (ha : Pv r a) (hb : Pv s b) : a < b := by
  have hc : Ech p m (srt c) := h.perm (srt_perm c)
  have lr := List.getElem?_eq_some_iff.mp hr
  have ls := List.getElem?_eq_some_iff.mp hs
  obtain ⟨l1, rfl⟩ := lr
  obtain ⟨l2, rfl⟩ := ls
  have le := List.pairwise_iff_getElem.mp (srt_sorted c) i k l1 l2 hik
  have ap := List.pairwise_iff_getElem.mp hc.apart i k l1 l2 hik
  have o1 := hc.ok _ (List.getElem_mem l1)
  have o2 := hc.ok _ (List.getElem_mem l2)
  rcases Nat.lt_trichotomy a b with q | q | q
  · exact q
  · subst q
    exact absurd (ap.1 a ha) hb.1
  · exfalso
    have e1 : e (srt c)[k] b = 1 := hc.pv (List.getElem_mem l2) hb
    have : (srt c)[i] < (srt c)[k] := lt_of_first (i := b) (o1.len.trans o2.len.symm) (fun j hj => by rw [ha.2 j (Nat.lt_trans hj q), hb.2 j hj]) (by rw [ha.2 b q, e1]; decide)
    exact absurd this (List.not_lt.mpr le)
end Mx
end
section
set_option autoImplicit false
namespace Mx
theorem e_rep {m i : Nat} : e (List.replicate m 0) i = 0 := by
  unfold e
  rw [List.getD_eq_getElem?_getD, List.getElem?_replicate]
  split <;> rfl
inductive Sp (p m : Nat) (c : List Row) : Row → Prop
  | zero : Sp p m c (List.replicate m 0)
  | add {r s : Row} (t : Int) : Sp p m c r → s ∈ c → Sp p m c (plusM p r t s)
theorem Ok.plus {p m : Nat} {r s : Row} (hp : 0 < p) (hl : r.length = m) (hs : s.length = m) (t : Int) : Ok p m (plusM p r t s) :=
  .of (by rw [len_plus (hl.trans hs.symm), hl]) fun i => by
    rw [e_plus (hl.trans hs.symm)]
    exact ⟨Int.emod_nonneg _ (by omega), Int.emod_lt_of_pos _ (by omega)⟩
theorem Ok.zero {p m : Nat} (hp : 0 < p) : Ok p m (List.replicate m 0) := .of (List.length_replicate ..) fun i => by
  rw [e_rep]
  omega
section
variable {p m : Nat} {c d : List Row} {r s : Row}
theorem Sp.ok (hp : 0 < p) (hc : ∀ s ∈ c, Ok p m s) (h : Sp p m c r) : Ok p m r := by
  induction h with
  | zero => exact .zero hp
  | add t h hs ih => exact .plus hp ih.len (hc _ hs).len t
theorem plus_rep (hp : 0 < p) (o : Ok p m r) (t : Int) : plusM p r t (List.replicate m 0) = r := by
  have hl : r.length = (List.replicate m (0 : Int)).length := by rw [o.len, List.length_replicate]
  refine e_ext (by rw [len_plus hl]) fun i => ?_
  rw [e_plus hl, e_rep, Int.mul_zero, Int.add_zero]
  exact mod_self (o.e hp i)
theorem rep_plus (hp : 0 < p) (o : Ok p m r) : plusM p (List.replicate m 0) 1 r = r := by
  have hl : (List.replicate m (0 : Int)).length = r.length := by rw [o.len, List.length_replicate]
  refine e_ext (by rw [len_plus hl, hl]) fun i => ?_
  rw [e_plus hl, e_rep, Int.one_mul, Int.zero_add]
  exact mod_self (o.e hp i)
theorem plus_plus {x : Row} (h1 : r.length = m) (h2 : s.length = m) (h3 : x.length = m) (t u : Int) : plusM p r t (plusM p s u x) = plusM p (plusM p r t s) (t * u) x := by
  have l1 : (plusM p s u x).length = m := by rw [len_plus (h2.trans h3.symm), h2]
  have l2 : (plusM p r t s).length = m := by rw [len_plus (h1.trans h2.symm), h1]
  refine e_ext (by rw [len_plus (h1.trans l1.symm), len_plus (l2.trans h3.symm), h1, l2]) fun i => ?_
  rw [e_plus (h1.trans l1.symm), e_plus (l2.trans h3.symm), e_plus (h2.trans h3.symm), e_plus (h1.trans h2.symm)]
  rw [Int.add_emod, Int.mul_emod, Int.emod_emod, ← Int.mul_emod, ← Int.add_emod, Int.emod_add_emod]
  congr 1
  rw [Int.mul_add, Int.mul_assoc, Int.add_assoc]
theorem Sp.plus (hp : 0 < p) (hc : ∀ s ∈ c, Ok p m s) (h : Sp p m c r) (h2 : Sp p m c s) (t : Int) : Sp p m c (plusM p r t s) := by
  induction h2 generalizing t with
  | zero => rw [plus_rep hp (h.ok hp hc)]; exact h
  | add u h3 hs ih =>
    rw [plus_plus (h.ok hp hc).len (h3.ok hp hc).len (hc _ hs).len]
    exact .add _ (ih t) hs
theorem Sp.mem (hp : 0 < p) (hc : ∀ s ∈ c, Ok p m s) (h : s ∈ c) : Sp p m c s := by
  have := Sp.add (p := p) (m := m) 1 .zero h
  rwa [rep_plus hp (hc _ h)] at this
theorem Sp.sub (hp : 0 < p) (hd : ∀ s ∈ d, Ok p m s) (h : ∀ s ∈ c, Sp p m d s) (k : Sp p m c r) : Sp p m d r := by
  induction k with
  | zero => exact .zero
  | add t _ hs ih => exact ih.plus hp hd (h _ hs) t
theorem Sp.mono (h : ∀ s ∈ c, s ∈ d) (k : Sp p m c r) : Sp p m d r := by
  induction k with
  | zero => exact .zero
  | add t _ hs ih => exact .add t ih (h _ hs)
theorem Sp.scM (hp : 0 < p) (hc : ∀ s ∈ c, Ok p m s) (h : Sp p m c r) (t : Int) : Sp p m c (Mx.scM p t r) := by
  have h1 := Sp.plus hp hc .zero h t
  have e1 : plusM p (List.replicate m 0) t r = Mx.scM p t r := by
    rw [← (h.ok hp hc).len]
    exact plus_zero
  rwa [e1] at h1
/-- rows that span all -/
structure Bs (p n : Nat) (c : List Row) : Prop where
  len : c.length = n
  ok : ∀ r ∈ c, Ok p n r
  all : ∀ r, Ok p n r → Sp p n c r
theorem Bs.put {n k : Nat} (hp : 0 < p) (b : Bs p n c) (hk : c[k]? = some s) (o : Ok p n r) (h : Sp p n (c.set k r) s) : Bs p n (c.set k r) := by
  have ok : ∀ x ∈ c.set k r, Ok p n x := fun x hx => by
    rcases List.mem_or_eq_of_mem_set hx with q | q
    · exact b.ok x q
    · rw [q]; exact o
  refine ⟨by rw [List.length_set, b.len], ok, fun x ox => (b.all x ox).sub hp ok fun y hy => ?_⟩
  obtain ⟨j, hj⟩ := List.mem_iff_getElem?.mp hy
  by_cases q : k = j
  · subst q
    rw [hk] at hj
    rw [← Option.some.inj hj]
    exact h
  · exact .mem hp ok (List.mem_iff_getElem?.mpr ⟨j, by rw [List.getElem?_set_ne q]; exact hj⟩)
theorem Bs.scale {n k : Nat} (pr : Pr p) (b : Bs p n c) (hk : c[k]? = some s) {t : Int} (h1 : 0 < t) (h2 : t < p) : Bs p n (c.set k (scM p t s)) := by
  have hp : 0 < p := Nat.lt_of_lt_of_le (by decide) pr.two
  have os : Ok p n s := b.ok s (List.mem_of_getElem? hk)
  have hlt : k < c.length := (List.getElem?_eq_some_iff.mp hk).1
  have o : Ok p n (scM p t s) := .scM hp os.len t
  refine b.put hp hk o ?_
  have ok : ∀ x ∈ c.set k (scM p t s), Ok p n x := fun x hx => by
    rcases List.mem_or_eq_of_mem_set hx with q | q
    · exact b.ok x q
    · rw [q]; exact o
  obtain ⟨x, hx1, hx2, hx3⟩ := pr.inv h1 h2
  have e1 : s = scM p x (scM p t s) := by
    refine e_ext (by rw [len_scM, len_scM]) fun i => ?_
    rw [e_scM, e_scM, Int.mul_emod, Int.emod_emod, ← Int.mul_emod, ← Int.mul_assoc, Int.mul_emod, Int.mul_comm x t, hx3, Int.one_mul, Int.emod_emod]
    exact (mod_self (os.e hp i)).symm
  have := (Sp.mem hp ok (List.mem_iff_getElem?.mpr ⟨k, by rw [List.getElem?_set_self hlt]⟩)).scM hp ok x
  rwa [← e1] at this
theorem Bs.addTo {n k j : Nat} (hp : 0 < p) (b : Bs p n c) (hk : c[k]? = some s) (hj : c[j]? = some r) (t : Int) (h : j = k → t = 0) : Bs p n (c.set k (plusM p s t r)) := by
  have os : Ok p n s := b.ok s (List.mem_of_getElem? hk)
  have or : Ok p n r := b.ok r (List.mem_of_getElem? hj)
  have hlt : k < c.length := (List.getElem?_eq_some_iff.mp hk).1
  have o : Ok p n (plusM p s t r) := .plus hp os.len or.len t
  refine b.put hp hk o ?_
  have ok : ∀ x ∈ c.set k (plusM p s t r), Ok p n x := fun x hx => by
    rcases List.mem_or_eq_of_mem_set hx with q | q
    · exact b.ok x q
    · rw [q]; exact o
  have h1 := Sp.mem hp ok (List.mem_iff_getElem?.mpr ⟨k, by rw [List.getElem?_set_self hlt]⟩)
  by_cases q : j = k
  · have t0 := h q
    subst t0
    have e1 : plusM p s 0 r = s := by
      refine e_ext (by rw [len_plus (os.len.trans or.len.symm)]) fun i => ?_
      rw [e_plus (os.len.trans or.len.symm), Int.zero_mul, Int.add_zero]
      exact mod_self (os.e hp i)
    rw [e1] at h1 ⊢
    exact h1
  · have h2 := Sp.mem hp ok (List.mem_iff_getElem?.mpr ⟨j, by rw [List.getElem?_set_ne (Ne.symm q)]; exact hj⟩)
    have h3 := h1.plus hp ok h2 (-t)
    have e1 : plusM p (plusM p s t r) (-t) r = s := by
      have l2 : (plusM p s t r).length = r.length := by rw [len_plus (os.len.trans or.len.symm), os.len, or.len]
      refine e_ext (by rw [len_plus l2, len_plus (os.len.trans or.len.symm)]) fun i => ?_
      rw [e_plus l2, e_plus (os.len.trans or.len.symm), Int.emod_add_emod, Int.add_assoc, ← Int.add_mul, Int.add_right_neg, Int.zero_mul, Int.add_zero]
      exact mod_self (os.e hp i)
    rwa [e1] at h3
theorem Bs.perm {n : Nat} (b : Bs p n c) (h : d.Perm c) : Bs p n d := ⟨h.length_eq.trans b.len, fun r hr => b.ok r (h.mem_iff.mp hr), fun r o => (b.all r o).mono fun s hs => h.mem_iff.mpr hs⟩
theorem bs_units {n : Nat} (hp : 2 ≤ p) (hl : c.length = n) (ok : ∀ r ∈ c, Ok p n r) (h : ∀ k, k < n → ∃ u ∈ c, ∀ i, e u i = if i = k then 1 else 0) : Bs p n c := by
  have p0 : 0 < p := by omega
  refine ⟨hl, ok, fun r o => ?_⟩
  have main : ∀ j, j ≤ n → ∃ x, Sp p n c x ∧ ∀ i, e x i = if i < j then e r i else 0 := by
    intro j
    induction j with
    | zero => exact fun _ => ⟨_, .zero, fun i => by rw [e_rep, if_neg (Nat.not_lt_zero _)]⟩
    | succ j ih =>
      intro hj
      obtain ⟨x, h1, h2⟩ := ih (by omega)
      obtain ⟨u, hu, h3⟩ := h j (by omega)
      refine ⟨_, .add (e r j) h1 hu, fun i => ?_⟩
      rw [e_plus ((h1.ok p0 ok).len.trans (ok u hu).len.symm), h2, h3]
      by_cases q : i = j
      · subst q
        rw [if_neg (Nat.lt_irrefl _), if_pos rfl, if_pos (Nat.lt_succ_self _), Int.mul_one, Int.zero_add]
        exact mod_self (o.e p0 i)
      · rw [if_neg q, Int.mul_zero, Int.add_zero]
        by_cases z : i < j
        · rw [if_pos z, if_pos (by omega)]
          exact mod_self (o.e p0 i)
        · rw [if_neg z, if_neg (by omega)]
          rfl
  obtain ⟨x, h1, h2⟩ := main n (Nat.le_refl _)
  have : x = r := e_ext ((h1.ok p0 ok).len.trans o.len.symm) fun i => by
    rw [h2]
    split
    · rfl
    · rw [e_ge (by rw [o.len]; omega)]
  rwa [this] at h1
end
end Mx
end
section
set_option autoImplicit false
set_option linter.all false
namespace Mx
/-! ### counting what rows span -/
theorem sub_len {α : Type} [DecidableEq α] : ∀ {l k : List α}, l.Nodup → (∀ x ∈ l, x ∈ k) → l.length ≤ k.length
  | [], _, _, _ => Nat.zero_le _
  | x :: l, k, nd, h => by
    obtain ⟨h1, h2⟩ := List.nodup_cons.mp nd
    have hx := h x (List.mem_cons_self ..)
    have := sub_len (k := k.erase x) h2 fun y hy => (List.mem_erase_of_ne fun q => h1 (by rw [← q]; exact hy)).mpr (h y (List.mem_cons_of_mem _ hy))
    rw [List.length_erase_of_mem hx] at this
    have : 0 < k.length := List.length_pos_of_mem hx
    rw [List.length_cons]
    omega
def cmb (p m : Nat) : List Row → List Row
  | [] => [List.replicate m 0]
  | s :: c => (cmb p m c).flatMap fun r => (List.range p).map fun t : Nat => plusM p r t s
section
variable {p m : Nat} {c d : List Row} {r s : Row}
theorem sum_const {α : Type} {k : Nat} : ∀ {l : List α} {f : α → Nat}, (∀ x ∈ l, f x = k) → (l.map f).sum = l.length * k
  | [], _, _ => by simp
  | x :: l, f, h => by
    rw [List.map_cons, List.sum_cons, sum_const fun y hy => h y (List.mem_cons_of_mem _ hy), h x (List.mem_cons_self ..), List.length_cons, Nat.succ_mul, Nat.add_comm]
theorem len_cmb (p m : Nat) : ∀ c : List Row, (cmb p m c).length = p ^ c.length
  | [] => rfl
  | s :: c => by
    show ((cmb p m c).flatMap _).length = _
    rw [List.length_flatMap, sum_const (k := p) fun x _ => by rw [List.length_map, List.length_range], len_cmb p m c, List.length_cons, Nat.pow_succ]
theorem cmb_sp : ∀ {c : List Row} {r : Row}, r ∈ cmb p m c → Sp p m c r
  | [], r, h => by
    rw [List.mem_singleton.mp h]
    exact .zero
  | s :: c, r, h => by
    obtain ⟨x, hx, h⟩ := List.mem_flatMap.mp h
    obtain ⟨t, _, rfl⟩ := List.mem_map.mp h
    exact .add t ((cmb_sp hx).mono fun y hy => List.mem_cons_of_mem _ hy) (List.mem_cons_self ..)
theorem plus_two {x : Row} (h1 : r.length = m) (h2 : s.length = m) (h3 : x.length = m) (t u : Int) : plusM p (plusM p r t s) u x = plusM p (plusM p r u x) t s := by
  have l1 : (plusM p r t s).length = m := by rw [len_plus (h1.trans h2.symm), h1]
  have l2 : (plusM p r u x).length = m := by rw [len_plus (h1.trans h3.symm), h1]
  refine e_ext (by rw [len_plus (l1.trans h3.symm), len_plus (l2.trans h2.symm), l1, l2]) fun i => ?_
  rw [e_plus (l1.trans h3.symm), e_plus (l2.trans h2.symm), e_plus (h1.trans h2.symm), e_plus (h1.trans h3.symm), Int.emod_add_emod, Int.emod_add_emod]
  congr 1
  omega
theorem plus_same (h1 : r.length = m) (h2 : s.length = m) (t u : Int) : plusM p (plusM p r t s) u s = plusM p r ((t + u) % p) s := by
  have l1 : (plusM p r t s).length = m := by rw [len_plus (h1.trans h2.symm), h1]
  have l2 : (plusM p r ((t + u) % p) s).length = m := by rw [len_plus (h1.trans h2.symm), h1]
  refine e_ext (by rw [len_plus (l1.trans h2.symm), l1, l2]) fun i => ?_
  rw [e_plus (l1.trans h2.symm), e_plus (h1.trans h2.symm), e_plus (h1.trans h2.symm), Int.emod_add_emod, Int.add_assoc, ← Int.add_mul]
  have q : ((t + u) % p * e s i) % p = ((t + u) * e s i) % p := by rw [Int.mul_emod, Int.emod_emod, ← Int.mul_emod]
  rw [Int.add_emod, ← q, ← Int.add_emod]
theorem cmb_add (hp : 0 < p) : ∀ {c : List Row} {r s : Row}, (∀ s ∈ c, Ok p m s) → r ∈ cmb p m c → s ∈ c → ∀ t : Int, plusM p r t s ∈ cmb p m c
  | [], _, _, _, _, h, _ => by simp at h
  | h0 :: c, r, s, hc, hr, hs, t => by
    have hc' : ∀ s ∈ c, Ok p m s := fun y hy => hc y (List.mem_cons_of_mem _ hy)
    have lh := (hc h0 (List.mem_cons_self ..)).len
    obtain ⟨x, hx, h⟩ := List.mem_flatMap.mp hr
    obtain ⟨t0, ht0, rfl⟩ := List.mem_map.mp h
    have lx := ((cmb_sp hx).ok hp hc').len
    refine List.mem_flatMap.mpr ?_
    rcases List.mem_cons.mp hs with q | q
    · subst q
      have h1 := Int.emod_nonneg ((t0 : Int) + t) (show (p : Int) ≠ 0 by omega)
      have h2 := Int.emod_lt_of_pos ((t0 : Int) + t) (show (0 : Int) < p by omega)
      refine ⟨x, hx, List.mem_map.mpr ⟨(((t0 : Int) + t) % p).toNat, List.mem_range.mpr (by omega), ?_⟩⟩
      rw [plus_same lx lh, Int.toNat_of_nonneg h1]
    · refine ⟨plusM p x t s, cmb_add hp hc' hx q t, List.mem_map.mpr ⟨t0, ht0, ?_⟩⟩
      exact plus_two lx (hc' s q).len lh t t0
theorem sp_cmb (hp : 0 < p) (hc : ∀ s ∈ c, Ok p m s) (h : Sp p m c r) : r ∈ cmb p m c := by
  induction h with
  | zero =>
    have : ∀ c : List Row, (∀ s ∈ c, Ok p m s) → List.replicate m 0 ∈ cmb p m c := by
      intro c
      induction c with
      | nil => exact fun _ => List.mem_singleton.mpr rfl
      | cons s c ih =>
        intro hc
        refine List.mem_flatMap.mpr ⟨_, ih fun y hy => hc y (List.mem_cons_of_mem _ hy), List.mem_map.mpr ⟨0, List.mem_range.mpr hp, ?_⟩⟩
        have l : (List.replicate m (0 : Int)).length = s.length := by rw [List.length_replicate, (hc s (List.mem_cons_self ..)).len]
        refine e_ext (by rw [len_plus l]) fun i => ?_
        rw [e_plus l, e_rep]
        simp
    exact this c hc
  | add t _ hs ih => exact cmb_add hp hc ih hs t
/-- at the pivots of other rows there is nothing -/
theorem cmb_off {j : Nat} (hp : 0 < p) (hc : ∀ s ∈ c, Ok p m s) (hj : ∀ s ∈ c, e s j = 0) (h : Sp p m c r) : e r j = 0 := by
  induction h with
  | zero => exact e_rep
  | add t h hs ih => rw [e_plus ((h.ok hp hc).len.trans (hc _ hs).len.symm), ih, hj _ hs, Int.mul_zero, Int.add_zero, Int.zero_emod]
theorem plus_inj (h1 : Ok p m r) (h2 : Ok p m s) {x : Row} (hx : x.length = m) {t : Int} (hp : 0 < p) (h : plusM p r t x = plusM p s t x) : r = s := by
  have l1 := h1.len.trans hx.symm
  have l2 := h2.len.trans hx.symm
  refine e_ext (h1.len.trans h2.len.symm) fun i => ?_
  have q := congrArg (fun y => e y i) h
  simp only [e_plus l1, e_plus l2] at q
  have a := h1.e hp i
  have b := h2.e hp i
  have q2 := Int.emod_emod_of_dvd (e r i + t * e x i - (e s i + t * e x i)) (Int.dvd_refl (p : Int))
  have q3 : (e r i + t * e x i - (e s i + t * e x i)) % p = 0 := by rw [Int.sub_emod, q, Int.sub_self, Int.zero_emod]
  have q4 : (e r i - e s i) % p = 0 := by
    rw [← q3]
    congr 1
    omega
  obtain ⟨k, hk⟩ := Int.dvd_of_emod_eq_zero q4
  have : k = 0 := by
    have p1 : (0 : Int) < p := by omega
    refine Classical.byContradiction fun z => ?_
    rcases Int.lt_or_gt_of_ne z with z | z
    · have : (p : Int) * k ≤ p * (-1) := Int.mul_le_mul_of_nonneg_left (by omega) (by omega)
      omega
    · have : (p : Int) * 1 ≤ p * k := Int.mul_le_mul_of_nonneg_left (by omega) (by omega)
      omega
  subst this
  omega
theorem cmb_nodup (hp : 0 < p) : ∀ {c : List Row}, Ech p m c → (cmb p m c).Nodup
  | [], _ => by
    show [List.replicate m (0 : Int)].Nodup
    exact List.nodup_cons.mpr ⟨by simp, List.nodup_nil⟩
  | s :: c, h => by
    obtain ⟨i, hi, h1⟩ := h.one s (List.mem_cons_self ..)
    have ls := (h.ok s (List.mem_cons_self ..)).len
    have off : ∀ y ∈ c, e y i = 0 := fun y hy => ((List.pairwise_cons.mp h.apart).1 y hy).1 i hi
    have z : ∀ {x : Row}, x ∈ cmb p m c → e x i = 0 := fun hx => cmb_off hp h.tail.ok off (cmb_sp hx)
    have ok : ∀ {x : Row}, x ∈ cmb p m c → Ok p m x := fun hx => (cmb_sp hx).ok hp h.tail.ok
    have at' : ∀ {x : Row} {t : Nat}, x ∈ cmb p m c → t < p → e (plusM p x t s) i = t := fun hx ht => by
      rw [e_plus ((ok hx).len.trans ls.symm), z hx, h1, Int.mul_one, Int.zero_add]
      exact mod_self ⟨by omega, by omega⟩
    refine List.pairwise_flatMap.mpr ⟨fun x hx => ?_, ?_⟩
    · rw [List.pairwise_map]
      refine List.Pairwise.imp_of_mem (fun {t u} ht hu htu q => ?_) (List.nodup_range (n := p))
      have q1 := congrArg (fun y => e y i) q
      simp only [at' hx (List.mem_range.mp ht), at' hx (List.mem_range.mp hu)] at q1
      exact htu (by omega)
    · refine List.Pairwise.imp_of_mem (fun {x y} hx hy hxy a ha b hb q => ?_) (cmb_nodup hp h.tail)
      obtain ⟨t, ht, rfl⟩ := List.mem_map.mp ha
      obtain ⟨u, hu, rfl⟩ := List.mem_map.mp hb
      have q1 := congrArg (fun y => e y i) q
      simp only [at' hx (List.mem_range.mp ht), at' hy (List.mem_range.mp hu)] at q1
      have : t = u := by omega
      subst this
      exact hxy (plus_inj (ok hx) (ok hy) ls hp q)
/-- rows apart, all spanned by d: no more than d has -/
theorem steinitz (hp : 2 ≤ p) (h : Ech p m c) (hd : ∀ s ∈ d, Ok p m s) (k : ∀ s ∈ c, Sp p m d s) : c.length ≤ d.length := by
  have p0 : 0 < p := by omega
  have := sub_len (cmb_nodup p0 h) fun x hx => sp_cmb p0 hd ((cmb_sp hx).sub p0 hd k)
  rw [len_cmb, len_cmb] at this
  exact (Nat.pow_le_pow_iff_right (by omega)).mp this
end
end Mx
end
section
set_option autoImplicit false
set_option linter.all false
namespace Mx
section
variable {p m : Nat} {c d : List Row} {r s row : Row}
theorem step_back {l own : Row} {i : Nat} (hp : 0 < p) (ol : Ok p m l) (ho : own.length = m) (hi : Pv own i) : plusM p (stepM p l own) (e l i) own = l := by
  have l1 := (ok_step (l := l) hp ol.len ho).len
  refine e_ext (by rw [len_plus (l1.trans ho.symm), l1, ol.len]) fun j => ?_
  rw [e_plus (l1.trans ho.symm), e_step ol.len ho hi, sub_mod_mod, Int.emod_add_emod, Int.sub_add_cancel]
  exact mod_self (ol.e hp j)
theorem sp_step {l own : Row} {i : Nat} (hp : 0 < p) (hd : ∀ s ∈ d, Ok p m s) (hl : Sp p m d l) (ho : Sp p m d own) (hi : Pv own i) : Sp p m d (stepM p l own) := by
  rw [← plus_step (hl.ok hp hd).len (ho.ok hp hd).len hi]
  exact hl.plus hp hd ho _
theorem sp_without (hp : 0 < p) (hd : ∀ s ∈ d, Ok p m s) : ∀ {c : List Row} {row : Row}, Ech p m c → (∀ s ∈ c, Sp p m d s) → Sp p m d row → Sp p m d (withoutM p row c)
  | [], _, _, _, h => h
  | r :: c, row, hc, h1, h => by
    obtain ⟨i, hi, _⟩ := hc.one r (List.mem_cons_self ..)
    show Sp p m d (withoutM p (stepM p row r) c)
    exact sp_without hp hd hc.tail (fun s hs => h1 s (List.mem_cons_of_mem _ hs)) (sp_step hp hd h (h1 r (List.mem_cons_self ..)) hi)
theorem of_without (hp : 0 < p) (hd : ∀ s ∈ d, Ok p m s) : ∀ {c : List Row} {row : Row}, Ech p m c → (∀ s ∈ c, Sp p m d s) → Ok p m row → Sp p m d (withoutM p row c) → Sp p m d row
  | [], _, _, _, _, h => h
  | r :: c, row, hc, h1, o, h => by
    obtain ⟨i, hi, _⟩ := hc.one r (List.mem_cons_self ..)
    have lr := (hc.ok r (List.mem_cons_self ..)).len
    have h2 : Sp p m d (stepM p row r) := of_without hp hd hc.tail (fun s hs => h1 s (List.mem_cons_of_mem _ hs)) (ok_step hp o.len lr) h
    have := h2.plus hp hd (h1 r (List.mem_cons_self ..)) (e row i)
    rwa [step_back hp o lr hi] at this
theorem zero_of {x : Row} (o : Ok p m x) (h : ∀ i, e x i = 0) : x = List.replicate m 0 := e_ext (by rw [o.len, List.length_replicate]) fun i => by rw [h, e_rep]
theorem span_add (pr : Pr p) (hc : Ech p m c) (o : Ok p m row) : (∀ s ∈ addM p c row, Sp p m (c ++ [row]) s) ∧ ∀ s ∈ c ++ [row], Sp p m (addM p c row) s := by
  have hp : 0 < p := Nat.lt_of_lt_of_le (by decide) pr.two
  have ha : ∀ s ∈ addM p c row, Ok p m s := (add_ech pr hc o).ok
  have hcr : ∀ s ∈ c ++ [row], Ok p m s := fun s hs => (List.mem_append.mp hs).elim (hc.ok s) fun q => by rw [List.mem_singleton.mp q]; exact o
  have ol := ok_without hp o fun r hr => (hc.ok r hr).len
  have m1 : ∀ s ∈ c, Sp p m (c ++ [row]) s := fun s hs => .mem hp hcr (List.mem_append_left _ hs)
  have mr : Sp p m (c ++ [row]) row := .mem hp hcr (List.mem_append_right _ (List.mem_singleton.mpr rfl))
  cases q : pivM (withoutM p row c) with
  | none =>
    rw [add_none q] at ha ⊢
    refine ⟨m1, fun s hs => ?_⟩
    rcases List.mem_append.mp hs with h | h
    · exact .mem hp hc.ok h
    · rw [List.mem_singleton.mp h]
      refine of_without hp hc.ok hc (fun s hs => .mem hp hc.ok hs) o ?_
      rw [zero_of ol (piv_none.mp q)]
      exact .zero
  | some i =>
    have hi := piv_some.mp q
    obtain ⟨x, e1, x1, x2, on, pn, oi⟩ := new_row pr ol hi
    obtain ⟨y, ey, _, _, hy⟩ := pr.invM (show 0 < e (withoutM p row c) i by have := (ol.e hp i).1; have := hi.1; omega) (ol.e hp i).2
    rw [e1] at ey
    have := Option.some.inj ey
    subst this
    have eq : addM p c row = c.map (fun own => stepM p own (scM p x (withoutM p row c))) ++ [scM p x (withoutM p row c)] := by
      rw [add_some q, e1]
      rfl
    rw [eq] at ha ⊢
    have mn : Sp p m (c ++ [row]) (scM p x (withoutM p row c)) := (sp_without hp hcr hc m1 mr).scM hp hcr x
    have nn : Sp p m (c.map (fun own => stepM p own (scM p x (withoutM p row c))) ++ [scM p x (withoutM p row c)]) (scM p x (withoutM p row c)) := .mem hp ha (List.mem_append_right _ (List.mem_singleton.mpr rfl))
    have own : ∀ s ∈ c, Sp p m (c.map (fun own => stepM p own (scM p x (withoutM p row c))) ++ [scM p x (withoutM p row c)]) s := fun s hs => by
      have h1 := Sp.mem hp ha (List.mem_append_left _ (List.mem_map.mpr ⟨s, hs, rfl⟩))
      have h2 := h1.plus hp ha nn (e s i)
      rwa [step_back hp (hc.ok s hs) on.len pn] at h2
    refine ⟨fun s hs => ?_, fun s hs => ?_⟩
    · rcases List.mem_append.mp hs with h | h
      · obtain ⟨t, ht, rfl⟩ := List.mem_map.mp h
        exact sp_step hp hcr (m1 t ht) mn pn
      · rw [List.mem_singleton.mp h]
        exact mn
    · rcases List.mem_append.mp hs with h | h
      · exact own s h
      · rw [List.mem_singleton.mp h]
        refine of_without hp ha hc own o ?_
        have h3 := nn.scM hp ha (e (withoutM p row c) i)
        have e2 : scM p (e (withoutM p row c) i) (scM p x (withoutM p row c)) = withoutM p row c := by
          refine e_ext (by rw [len_scM, len_scM]) fun j => ?_
          rw [e_scM, e_scM, Int.mul_emod, Int.emod_emod, ← Int.mul_emod, ← Int.mul_assoc, Int.mul_emod, hy, Int.one_mul, Int.emod_emod]
          exact mod_self (ol.e hp j)
        rwa [e2] at h3
theorem span_raw' (pr : Pr p) : ∀ {rows found : List Row}, Ech p m found → (∀ r ∈ rows, Ok p m r) → ∀ r, Sp p m (rows.foldl (addM p) found) r ↔ Sp p m (found ++ rows) r
  | [], found, _, _, r => by rw [List.append_nil]; exact Iff.rfl
  | row :: rows, found, hc, o, r => by
    have hp : 0 < p := Nat.lt_of_lt_of_le (by decide) pr.two
    have o1 := o row (List.mem_cons_self ..)
    have o2 : ∀ r ∈ rows, Ok p m r := fun r hr => o r (List.mem_cons_of_mem _ hr)
    have ha := add_ech pr hc o1
    obtain ⟨h1, h2⟩ := span_add pr hc o1
    show Sp p m (rows.foldl (addM p) (addM p found row)) r ↔ _
    rw [span_raw' pr ha o2 r]
    have k1 : ∀ s ∈ addM p found row ++ rows, Ok p m s := fun s hs => (List.mem_append.mp hs).elim (ha.ok s) (o2 s)
    have k2 : ∀ s ∈ found ++ row :: rows, Ok p m s := fun s hs => (List.mem_append.mp hs).elim (hc.ok s) (o s)
    constructor
    · refine fun h => h.sub hp k2 fun s hs => ?_
      rcases List.mem_append.mp hs with q | q
      · refine (h1 s q).mono fun y hy => ?_
        rcases List.mem_append.mp hy with z | z
        · exact List.mem_append_left _ z
        · rw [List.mem_singleton.mp z]
          exact List.mem_append_right _ (List.mem_cons_self ..)
      · exact .mem hp k2 (List.mem_append_right _ (List.mem_cons_of_mem _ q))
    · refine fun h => h.sub hp k1 fun s hs => ?_
      have fin : s ∈ found ++ [row] → Sp p m (addM p found row ++ rows) s := fun z => (h2 s z).mono fun y hy => List.mem_append_left _ hy
      rcases List.mem_append.mp hs with q | q
      · exact fin (List.mem_append_left _ q)
      · rcases List.mem_cons.mp q with q | q
        · exact fin (List.mem_append_right _ (List.mem_singleton.mpr q))
        · exact .mem hp k1 (List.mem_append_right _ q)
theorem span_perm (h : c.Perm d) : Sp p m c r ↔ Sp p m d r := ⟨fun k => k.mono fun s hs => h.mem_iff.mp hs, fun k => k.mono fun s hs => h.mem_iff.mpr hs⟩
theorem span_red (pr : Pr p) (o : ∀ r ∈ c, Ok p m r) : Sp p m (redM p c) r ↔ Sp p m c r := by
  unfold redM
  rw [span_perm (srt_perm _)]
  exact span_raw' pr .nil o r
/-- what is spanned, and has nothing at the pivots, is nothing -/
theorem cmb_zero (hp : 0 < p) : ∀ {c : List Row} {r : Row}, Ech p m c → r ∈ cmb p m c → (∀ s ∈ c, ∀ i, Pv s i → e r i = 0) → r = List.replicate m 0
  | [], r, _, h, _ => List.mem_singleton.mp h
  | s :: c, r, hc, h, z => by
    obtain ⟨i, hi, h1⟩ := hc.one s (List.mem_cons_self ..)
    have ls := (hc.ok s (List.mem_cons_self ..)).len
    obtain ⟨x, hx, h⟩ := List.mem_flatMap.mp h
    obtain ⟨t, ht, rfl⟩ := List.mem_map.mp h
    have ox := (cmb_sp hx).ok hp hc.tail.ok
    have lx := ox.len.trans ls.symm
    have off : e x i = 0 := cmb_off hp hc.tail.ok (fun y hy => ((List.pairwise_cons.mp hc.apart).1 y hy).1 i hi) (cmb_sp hx)
    have q := z s (List.mem_cons_self ..) i hi
    rw [e_plus lx, off, h1, Int.mul_one, Int.zero_add, mod_self ⟨by omega, by have := List.mem_range.mp ht; omega⟩] at q
    have e1 : plusM p x (t : Nat) s = x := by
      refine e_ext (by rw [len_plus lx]) fun j => ?_
      rw [e_plus lx, q, Int.zero_mul, Int.add_zero]
      exact mod_self (ox.e hp j)
    rw [e1]
    refine cmb_zero hp hc.tail hx fun y hy j hj => ?_
    have := z y (List.mem_cons_of_mem _ hy) j hj
    rwa [e1] at this
theorem sp_in (hp : 0 < p) (hc : Ech p m c) (h : Sp p m c row) : withoutM p row c = List.replicate m 0 := by
  have o := h.ok hp hc.ok
  refine cmb_zero hp hc (sp_cmb hp hc.ok (sp_without hp hc.ok hc (fun s hs => .mem hp hc.ok hs) h)) fun s hs i hi => without_zero hp hc o hs hi
theorem in_sp (hp : 0 < p) (hc : Ech p m c) (o : Ok p m row) (h : withoutM p row c = List.replicate m 0) : Sp p m c row :=
  of_without hp hc.ok hc (fun s hs => .mem hp hc.ok hs) o (by rw [h]; exact .zero)
theorem len_le (hp : 2 ≤ p) (hc : Ech p m c) (hd : ∀ s ∈ d, Ok p m s) (h : ∀ r, Sp p m c r → Sp p m d r) : c.length ≤ d.length :=
  steinitz hp hc hd fun s hs => h s (.mem (by omega) hc.ok hs)
theorem len_same (hp : 2 ≤ p) (hc : Ech p m c) (hd : Ech p m d) (h : ∀ r, Sp p m c r ↔ Sp p m d r) : c.length = d.length :=
  Nat.le_antisymm (len_le hp hc hd.ok fun r => (h r).mp) (len_le hp hd hc.ok fun r => (h r).mpr)
end
end Mx
end
section
set_option autoImplicit false
set_option linter.all false
namespace Mx
/-! ### rows made of two, halves of rows -/
theorem e_appL {r s : Row} {i : Nat} (h : i < r.length) : e (r ++ s) i = e r i := by
  unfold e
  rw [List.getD_eq_getElem?_getD, List.getD_eq_getElem?_getD, List.getElem?_append_left h]
theorem e_appR {r s : Row} {i : Nat} : e (r ++ s) (r.length + i) = e s i := by
  unfold e
  rw [List.getD_eq_getElem?_getD, List.getD_eq_getElem?_getD, List.getElem?_append_right (by omega)]
  congr 2
  omega
theorem e_take {r : Row} {n i : Nat} (h : i < n) : e (r.take n) i = e r i := by
  unfold e
  rw [List.getD_eq_getElem?_getD, List.getD_eq_getElem?_getD, List.getElem?_take_of_lt h]
theorem e_drop {r : Row} {n i : Nat} : e (r.drop n) i = e r (n + i) := by
  unfold e
  rw [List.getD_eq_getElem?_getD, List.getD_eq_getElem?_getD, List.getElem?_drop]
theorem plus_app {p n : Nat} {a b c d : Row} {t : Int} (h1 : a.length = n) (h2 : c.length = n) : plusM p (a ++ b) t (c ++ d) = plusM p a t c ++ plusM p b t d := by
  unfold plusM
  exact List.zipWith_append (h1.trans h2.symm)
theorem plus_take {p n : Nat} {a b : Row} {t : Int} : (plusM p a t b).take n = plusM p (a.take n) t (b.take n) := by
  unfold plusM
  exact List.take_zipWith
theorem plus_drop {p n : Nat} {a b : Row} {t : Int} : (plusM p a t b).drop n = plusM p (a.drop n) t (b.drop n) := by
  unfold plusM
  exact List.drop_zipWith
theorem Ok.app {p n k : Nat} {r s : Row} (h1 : Ok p n r) (h2 : Ok p k s) : Ok p (n + k) (r ++ s) := ⟨by rw [List.length_append, h1.len, h2.len], fun x hx => (List.mem_append.mp hx).elim (h1.rng x) (h2.rng x)⟩
theorem Ok.take {p n k : Nat} {r : Row} (h : Ok p (n + k) r) : Ok p n (r.take n) := ⟨by rw [List.length_take, h.len]; omega, fun x hx => h.rng x (List.mem_of_mem_take hx)⟩
theorem Ok.drop {p n k : Nat} {r : Row} (h : Ok p (n + k) r) : Ok p k (r.drop n) := ⟨by rw [List.length_drop, h.len]; omega, fun x hx => h.rng x (List.mem_of_mem_drop hx)⟩
section
variable {p m m' n : Nat} {c d u v : List Row} {r s : Row} {f : Row → Row}
structure Lin (p m m' : Nat) (f : Row → Row) : Prop where
  plus : ∀ (r s : Row) (t : Int), r.length = m → s.length = m → f (plusM p r t s) = plusM p (f r) t (f s)
  zero : f (List.replicate m 0) = List.replicate m' 0
theorem Lin.sp (l : Lin p m m' f) (hp : 0 < p) (hc : ∀ s ∈ c, Ok p m s) (h : Sp p m c r) : Sp p m' (c.map f) (f r) := by
  induction h with
  | zero => rw [l.zero]; exact .zero
  | add t h hs ih =>
    rw [l.plus _ _ _ (h.ok hp hc).len (hc _ hs).len]
    exact .add t ih (List.mem_map.mpr ⟨_, hs, rfl⟩)
theorem lin_dup : Lin p n (n + n) (fun r => r ++ r) := ⟨fun r s t h1 h2 => (plus_app h1 h2).symm, List.replicate_append_replicate⟩
theorem lin_left (hp : 0 < p) : Lin p n (n + n) (fun r => r ++ List.replicate n 0) := ⟨fun r s t h1 h2 => by
  rw [plus_app h1 h2, plus_rep hp (.zero hp)], List.replicate_append_replicate⟩
theorem lin_right (hp : 0 < p) : Lin p n (n + n) (fun r => List.replicate n 0 ++ r) := ⟨fun r s t h1 h2 => by
  rw [plus_app (List.length_replicate ..) (List.length_replicate ..), plus_rep hp (.zero hp)], List.replicate_append_replicate⟩
theorem lin_take : Lin p (n + n) n (fun r => r.take n) := ⟨fun r s t _ _ => plus_take, by rw [List.take_replicate]; congr 1; omega⟩
theorem lin_drop : Lin p (n + n) n (fun r => r.drop n) := ⟨fun r s t _ _ => plus_drop, by rw [List.drop_replicate]; congr 1; omega⟩
theorem lin_swap : Lin p (n + n) (n + n) (fun r => r.drop n ++ r.take n) := ⟨fun r s t h1 h2 => by
  rw [plus_drop, plus_take, plus_app (n := n) (by rw [List.length_drop]; omega) (by rw [List.length_drop]; omega)], by
  rw [List.take_replicate, List.drop_replicate, List.replicate_append_replicate]; congr 1; omega⟩
theorem Ech.map {g : Nat → Nat} (h : Ech p m c) (ho : ∀ r ∈ c, Ok p m' (f r)) (hg : ∀ r ∈ c, ∀ i, Pv r i → Pv (f r) (g i) ∧ ∀ s ∈ c, e (f s) (g i) = e s i) : Ech p m' (c.map f) := by
  refine ⟨fun x hx => ?_, fun x hx => ?_, ?_⟩
  · obtain ⟨r, hr, rfl⟩ := List.mem_map.mp hx
    exact ho r hr
  · obtain ⟨r, hr, rfl⟩ := List.mem_map.mp hx
    obtain ⟨i, hi, h1⟩ := h.one r hr
    obtain ⟨h2, h3⟩ := hg r hr i hi
    exact ⟨_, h2, (h3 r hr).trans h1⟩
  · rw [List.pairwise_map]
    refine h.apart.imp_of_mem fun {r s} hr hs ap => ?_
    obtain ⟨i, hi, _⟩ := h.one r hr
    obtain ⟨j, hj, _⟩ := h.one s hs
    obtain ⟨h2, h3⟩ := hg r hr i hi
    obtain ⟨h4, h5⟩ := hg s hs j hj
    refine ⟨fun k hk => ?_, fun k hk => ?_⟩
    · rw [hk.uniq h2, h3 s hs]
      exact ap.1 i hi
    · rw [hk.uniq h4, h5 r hr]
      exact ap.2 j hj
theorem Ech.filter (h : Ech p m c) (q : Row → Bool) : Ech p m (c.filter q) := ⟨fun r hr => h.ok r (List.mem_filter.mp hr).1, fun r hr => h.one r (List.mem_filter.mp hr).1, h.apart.filter _⟩
/-! ### two codes beside one another -/
def dbl (n : Nat) (u v : List Row) : List Row := u.map (fun r => r ++ r) ++ v.map (fun r => r ++ List.replicate n 0)
def late (n : Nat) (rows : List Row) : List Row := rows.filter fun r => decide (n ≤ (pivM r).getD 0)
def early (n : Nat) (rows : List Row) : List Row := rows.filter fun r => !decide (n ≤ (pivM r).getD 0)
def com (p n : Nat) (u v : List Row) : List Row := redM p ((late n (redM p (dbl n u v))).map (·.drop n))
def joi (p : Nat) (u v : List Row) : List Row := redM p (u ++ v)
theorem dbl_ok (hp : 0 < p) (hu : ∀ r ∈ u, Ok p n r) (hv : ∀ r ∈ v, Ok p n r) : ∀ r ∈ dbl n u v, Ok p (n + n) r := fun x hx => by
  rcases List.mem_append.mp hx with q | q
  · obtain ⟨r, hr, rfl⟩ := List.mem_map.mp q
    exact (hu r hr).app (hu r hr)
  · obtain ⟨r, hr, rfl⟩ := List.mem_map.mp q
    exact (hv r hr).app (.zero hp)
theorem sp_dbl (hp : 0 < p) (hu : ∀ r ∈ u, Ok p n r) (hv : ∀ r ∈ v, Ok p n r) {y : Row} : Sp p (n + n) (dbl n u v) y ↔ ∃ a b, Sp p n u a ∧ Sp p n v b ∧ y = plusM p a 1 b ++ a := by
  have hd := dbl_ok hp hu hv
  constructor
  · intro h
    induction h with
    | zero => exact ⟨_, _, .zero, .zero, by rw [plus_rep hp (.zero hp), List.replicate_append_replicate]⟩
    | add t h hs ih =>
      obtain ⟨a, b, ha, hb, rfl⟩ := ih
      have la := (ha.ok hp hu).len
      have lb := (hb.ok hp hv).len
      have lab : (plusM p a 1 b).length = n := by rw [len_plus (la.trans lb.symm), la]
      rcases List.mem_append.mp hs with q | q
      · obtain ⟨r, hr, rfl⟩ := List.mem_map.mp q
        have lr := (hu r hr).len
        refine ⟨plusM p a t r, b, .add t ha hr, hb, ?_⟩
        rw [plus_app lab lr, plus_two la lb lr]
      · obtain ⟨r, hr, rfl⟩ := List.mem_map.mp q
        have lr := (hv r hr).len
        refine ⟨a, plusM p b t r, ha, .add t hb hr, ?_⟩
        rw [plus_app lab lr, plus_rep hp (ha.ok hp hu), plus_plus la lb lr, Int.one_mul]
  · rintro ⟨a, b, ha, hb, rfl⟩
    have la := (ha.ok hp hu).len
    have lb := (hb.ok hp hv).len
    have h1 : Sp p (n + n) (dbl n u v) (a ++ a) := (lin_dup.sp hp hu ha).mono fun s hs => List.mem_append_left _ hs
    have h2 : Sp p (n + n) (dbl n u v) (b ++ List.replicate n 0) := ((lin_left hp).sp hp hv hb).mono fun s hs => List.mem_append_right _ hs
    have h3 := h1.plus hp hd h2 1
    rwa [plus_app la lb, plus_rep hp (ha.ok hp hu)] at h3
/-- what has nothing at the early pivots is spanned by the late rows -/
theorem sp_part (hp : 0 < p) (hc : Ech p m c) (q : Row → Bool) (h : Sp p m c r) (z : ∀ s ∈ c, q s = false → ∀ i, Pv s i → e r i = 0) : Sp p m (c.filter q) r := by
  have hf := hc.filter q
  have o := h.ok hp hc.ok
  refine in_sp hp hf o (cmb_zero hp hc (sp_cmb hp hc.ok (sp_without hp hc.ok hf (fun s hs => .mem hp hc.ok (List.mem_filter.mp hs).1) h)) fun s hs i hi => ?_)
  cases g : q s with
  | true => exact without_zero hp hf o (List.mem_filter.mpr ⟨hs, g⟩) hi
  | false =>
    rw [without_keep hp hf o fun t ht => ?_]
    · exact z s hs g i hi
    · obtain ⟨t1, t2⟩ := List.mem_filter.mp ht
      obtain ⟨a, ha⟩ := List.mem_iff_getElem?.mp hs
      obtain ⟨b, hb⟩ := List.mem_iff_getElem?.mp t1
      obtain ⟨la, rfl⟩ := List.getElem?_eq_some_iff.mp ha
      obtain ⟨lb, rfl⟩ := List.getElem?_eq_some_iff.mp hb
      rcases Nat.lt_trichotomy a b with w | w | w
      · exact (List.pairwise_iff_getElem.mp hc.apart a b la lb w).1 i hi
      · subst w
        rw [g] at t2
        cases t2
      · exact (List.pairwise_iff_getElem.mp hc.apart b a lb la w).2 i hi
theorem late_zero (hc : Ech p (n + n) c) (h : s ∈ late n c) : s = List.replicate n 0 ++ s.drop n := by
  obtain ⟨h1, h2⟩ := List.mem_filter.mp h
  obtain ⟨i, hi, _⟩ := hc.one s h1
  have h2 := of_decide_eq_true h2
  rw [piv_some.mpr hi] at h2
  have h2 : n ≤ i := h2
  have o := hc.ok s h1
  have : s.take n = List.replicate n 0 := e_ext (by rw [List.length_take, o.len, List.length_replicate]; omega) fun j => by
    rw [e_rep]
    by_cases q : j < n
    · rw [e_take q]
      exact hi.2 j (by omega)
    · exact e_ge (by rw [List.length_take]; omega)
  rw [← this, List.take_append_drop]
theorem ech_late (hc : Ech p (n + n) c) : Ech p n ((late n c).map (·.drop n)) := by
  have hf := hc.filter fun r => decide (n ≤ (pivM r).getD 0)
  refine Ech.map (g := fun i => i - n) hf (fun r hr => (hf.ok r hr).drop) fun r hr i hi => ?_
  have h2 := of_decide_eq_true (List.mem_filter.mp hr).2
  rw [piv_some.mpr hi] at h2
  have h2 : n ≤ i := h2
  have eq : ∀ (s : Row), e (s.drop n) (i - n) = e s i := fun s => by rw [e_drop]; congr 1; omega
  refine ⟨⟨?_, fun j hj => ?_⟩, fun s _ => eq s⟩
  · show e (r.drop n) (i - n) ≠ 0
    rw [eq]
    exact hi.1
  · show e (r.drop n) j = 0
    rw [e_drop]
    exact hi.2 _ (by omega)
theorem ech_early (hc : Ech p (n + n) c) : Ech p n ((early n c).map (·.take n)) := by
  have hf := hc.filter fun r => !decide (n ≤ (pivM r).getD 0)
  refine Ech.map (g := fun i => i) hf (fun r hr => (hf.ok r hr).take) fun r hr i hi => ?_
  have h2 := (List.mem_filter.mp hr).2
  rw [piv_some.mpr hi] at h2
  have h2 : i < n := by simpa using h2
  refine ⟨⟨?_, fun j hj => ?_⟩, fun s _ => e_take h2⟩
  · show e (r.take n) i ≠ 0
    rw [e_take h2]
    exact hi.1
  · show e (r.take n) j = 0
    rw [e_take (by omega)]
    exact hi.2 j hj
theorem sp_late (hp : 0 < p) (hc : Ech p (n + n) c) : Sp p n ((late n c).map (·.drop n)) r ↔ r.length = n ∧ Sp p (n + n) c (List.replicate n 0 ++ r) := by
  have hf : Ech p (n + n) (late n c) := hc.filter fun r => decide (n ≤ (pivM r).getD 0)
  constructor
  · intro h
    have h1 := (lin_right hp).sp hp (ech_late hc).ok h
    refine ⟨(h.ok hp (ech_late hc).ok).len, ?_⟩
    rw [List.map_map] at h1
    refine h1.sub hp hc.ok fun s hs => ?_
    obtain ⟨t, ht, rfl⟩ := List.mem_map.mp hs
    refine .mem hp hc.ok ?_
    show List.replicate n 0 ++ t.drop n ∈ c
    rw [← late_zero hc ht]
    exact (List.mem_filter.mp ht).1
  · rintro ⟨hl, h⟩
    have h1 : Sp p (n + n) (late n c) (List.replicate n 0 ++ r) := sp_part hp hc _ h fun s hs g i hi => by
      have g := of_decide_eq_false g
      rw [piv_some.mpr hi] at g
      have g : ¬ n ≤ i := g
      rw [e_appL (by rw [List.length_replicate]; omega)]
      exact e_rep
    have h2 := (lin_drop (p := p) (n := n)).sp hp hf.ok h1
    rwa [List.drop_left' (List.length_replicate ..)] at h2
theorem sp_early (hp : 0 < p) (hc : Ech p (n + n) c) : Sp p n ((early n c).map (·.take n)) r ↔ ∃ y, y.length = n ∧ Sp p (n + n) c (r ++ y) := by
  have hf : Ech p (n + n) (early n c) := hc.filter fun r => !decide (n ≤ (pivM r).getD 0)
  constructor
  · intro h
    have : ∃ z, Sp p (n + n) c z ∧ z.take n = r := by
      induction h with
      | zero => exact ⟨_, .zero, (lin_take (p := p)).zero⟩
      | add t h hs ih =>
        obtain ⟨z, hz, rfl⟩ := ih
        obtain ⟨w, hw, hs2⟩ := List.mem_map.mp hs
        subst hs2
        exact ⟨_, .add t hz (List.mem_filter.mp hw).1, plus_take⟩
    obtain ⟨z, hz, rfl⟩ := this
    refine ⟨z.drop n, by rw [List.length_drop, (hz.ok hp hc.ok).len]; omega, ?_⟩
    rwa [List.take_append_drop]
  · rintro ⟨y, hy, h⟩
    have h2 := (lin_take (p := p) (n := n)).sp hp hc.ok h
    have lr : r.length = n := by
      have := (h.ok hp hc.ok).len
      rw [List.length_append] at this
      omega
    rw [List.take_left' lr] at h2
    refine h2.sub hp (ech_early hc).ok fun s hs => ?_
    obtain ⟨t, ht, rfl⟩ := List.mem_map.mp hs
    cases g : decide (n ≤ (pivM t).getD 0) with
    | false => exact .mem hp (ech_early hc).ok (List.mem_map.mpr ⟨t, List.mem_filter.mpr ⟨ht, by rw [g]; rfl⟩, rfl⟩)
    | true =>
      have : t ∈ late n c := List.mem_filter.mpr ⟨ht, g⟩
      have e1 := late_zero hc this
      have e2 : t.take n = List.replicate n 0 := by rw [e1, List.take_left' (List.length_replicate ..)]
      show Sp p n _ (t.take n)
      rw [e2]
      exact .zero
theorem len_parts : (early n c).length + (late n c).length = c.length := by
  unfold early late
  rw [Nat.add_comm]
  induction c with
  | nil => rfl
  | cons x c ih =>
    rw [List.filter_cons, List.filter_cons]
    cases decide (n ≤ (pivM x).getD 0) <;> simp <;> omega
theorem ech_com (pr : Pr p) (hu : ∀ r ∈ u, Ok p n r) (hv : ∀ r ∈ v, Ok p n r) : Ech p n (com p n u v) :=
  red_ech pr (ech_late (red_ech pr (dbl_ok (Nat.lt_of_lt_of_le (by decide) pr.two) hu hv))).ok
theorem ech_joi (pr : Pr p) (hu : ∀ r ∈ u, Ok p n r) (hv : ∀ r ∈ v, Ok p n r) : Ech p n (joi p u v) := red_ech pr fun r hr => (List.mem_append.mp hr).elim (hu r) (hv r)
theorem sp_com (pr : Pr p) (hu : ∀ r ∈ u, Ok p n r) (hv : ∀ r ∈ v, Ok p n r) : Sp p n (com p n u v) r ↔ Sp p n u r ∧ Sp p n v r := by
  have hp : 0 < p := Nat.lt_of_lt_of_le (by decide) pr.two
  have hd := dbl_ok hp hu hv
  have hc := red_ech pr hd
  unfold com
  rw [span_red pr (ech_late hc).ok, sp_late hp hc, span_red pr hd, sp_dbl hp hu hv]
  constructor
  · rintro ⟨hl, a, b, ha, hb, q⟩
    have la := (ha.ok hp hu).len
    have lb := (hb.ok hp hv).len
    obtain ⟨q1, rfl⟩ := List.append_inj q (by rw [List.length_replicate, len_plus (la.trans lb.symm), la])
    refine ⟨ha, ?_⟩
    have h2 := Sp.plus hp hv .zero hb (-1)
    have : plusM p (List.replicate n 0) (-1) b = r := by
      refine e_ext (by rw [len_plus (by rw [List.length_replicate, lb]), List.length_replicate, la]) fun i => ?_
      have q2 := congrArg (fun y => e y i) q1
      simp only [e_rep, e_plus (la.trans lb.symm)] at q2
      rw [e_plus (by rw [List.length_replicate, lb]), e_rep, Int.zero_add]
      have r1 := (ha.ok hp hu).e hp i
      have h3 : (-1 * e b i) % p = (e r i - (e r i + 1 * e b i)) % p := by congr 1; omega
      rw [h3, Int.sub_emod, ← q2, Int.sub_zero, Int.emod_emod]
      exact mod_self r1
    rwa [this] at h2
  · rintro ⟨h1, h2⟩
    have lr := (h1.ok hp hu).len
    refine ⟨lr, r, plusM p (List.replicate n 0) (-1) r, h1, Sp.plus hp hv .zero h2 (-1), ?_⟩
    congr 1
    have l2 : (plusM p (List.replicate n 0) (-1) r).length = n := by rw [len_plus (by rw [List.length_replicate, lr]), List.length_replicate]
    refine e_ext (by rw [len_plus (lr.trans l2.symm), List.length_replicate, lr]) fun i => ?_
    rw [e_rep, e_plus (lr.trans l2.symm), e_plus (by rw [List.length_replicate, lr]), e_rep, Int.one_mul, Int.zero_add, Int.add_emod, Int.emod_emod, ← Int.add_emod]
    have : e r i + -1 * e r i = 0 := by omega
    rw [this, Int.zero_emod]
theorem sp_joi (pr : Pr p) (hu : ∀ r ∈ u, Ok p n r) (hv : ∀ r ∈ v, Ok p n r) : Sp p n (joi p u v) r ↔ ∃ a b, Sp p n u a ∧ Sp p n v b ∧ r = plusM p a 1 b := by
  have hp : 0 < p := Nat.lt_of_lt_of_le (by decide) pr.two
  have huv : ∀ r ∈ u ++ v, Ok p n r := fun r hr => (List.mem_append.mp hr).elim (hu r) (hv r)
  unfold joi
  rw [span_red pr huv]
  constructor
  · intro h
    induction h with
    | zero => exact ⟨_, _, .zero, .zero, by rw [plus_rep hp (.zero hp)]⟩
    | add t h hs ih =>
      obtain ⟨a, b, ha, hb, rfl⟩ := ih
      have la := (ha.ok hp hu).len
      have lb := (hb.ok hp hv).len
      rcases List.mem_append.mp hs with q | q
      · exact ⟨_, b, .add t ha q, hb, plus_two la lb (hu _ q).len _ _⟩
      · exact ⟨a, _, ha, .add t hb q, by rw [plus_plus la lb (hv _ q).len, Int.one_mul]⟩
  · rintro ⟨a, b, ha, hb, rfl⟩
    exact (ha.mono fun s hs => List.mem_append_left _ hs).plus hp huv (hb.mono fun s hs => List.mem_append_right _ hs) 1
/-! ### ranks of both together -/
theorem sp_wo (hp : 0 < p) (hu : ∀ r ∈ u, Ok p n r) (hv : Ech p n v) {y : Row} (hy : y.length = n) : ∀ {w : List Row} {x : Row}, (∀ s ∈ w, s ∈ v) → Ech p n w → x.length = n → Sp p (n + n) (dbl n u v) (x ++ y) → Sp p (n + n) (dbl n u v) (withoutM p x w ++ y)
  | [], _, _, _, _, h => h
  | s :: w, x, hw, ew, lx, h => by
    have hs := hw s (List.mem_cons_self ..)
    obtain ⟨i, hi, _⟩ := ew.one s (List.mem_cons_self ..)
    have ls := (hv.ok s hs).len
    show Sp p (n + n) _ (withoutM p (stepM p x s) w ++ y)
    refine sp_wo hp hu hv hy (fun z hz => hw z (List.mem_cons_of_mem _ hz)) ew.tail (ok_step hp lx ls).len ?_
    rw [← plus_step lx ls hi]
    have h2 := h.add (0 - e x i) (List.mem_append_right _ (List.mem_map.mpr ⟨s, hs, rfl⟩))
    have oy : Ok p n y := by
      have o := h.ok hp (dbl_ok hp hu hv.ok)
      have := Ok.drop (k := n) o
      rwa [List.drop_left' lx] at this
    rwa [plus_app lx ls, plus_rep hp oy] at h2
theorem len_dbl (pr : Pr p) (hu : Ech p n u) (hv : Ech p n v) : (redM p (dbl n u v)).length = u.length + v.length := by
  have hp : 0 < p := Nat.lt_of_lt_of_le (by decide) pr.two
  have hd := dbl_ok hp hu.ok hv.ok
  have hc := red_ech pr hd
  refine Nat.le_antisymm ?_ ?_
  · have := steinitz pr.two hc hd fun s hs => (span_red pr hd).mp (.mem hp hc.ok hs)
    unfold dbl at this ⊢
    rwa [List.length_append, List.length_map, List.length_map] at this
  · have wk : ∀ r ∈ u, Ok p n (withoutM p r v) := fun r hr => ok_without hp (hu.ok r hr) fun s hs => (hv.ok s hs).len
    have e1 : Ech p (n + n) (u.map fun r => r ++ withoutM p r v) := Ech.map (g := fun i => i) hu (fun r hr => (hu.ok r hr).app (wk r hr)) fun r hr i hi => by
      have hl : ∀ s ∈ u, i < s.length := fun s hs => by
        rw [(hu.ok s hs).len, ← (hu.ok r hr).len]
        exact hi.lt
      refine ⟨⟨?_, fun j hj => ?_⟩, fun s hs => e_appL (hl s hs)⟩
      · rw [e_appL hi.lt]
        exact hi.1
      · rw [e_appL (Nat.lt_trans hj hi.lt)]
        exact hi.2 j hj
    have eR : ∀ (s : Row) (j : Nat), e (List.replicate n 0 ++ s) (n + j) = e s j := fun s j => by
      have := e_appR (r := List.replicate n (0 : Int)) (s := s) (i := j)
      rwa [List.length_replicate] at this
    have pR : ∀ {s : Row} {i : Nat}, Pv s i → Pv (List.replicate n 0 ++ s) (n + i) := fun {s i} hi => by
      refine ⟨by rw [eR]; exact hi.1, fun j hj => ?_⟩
      by_cases q : j < n
      · rw [e_appL (by rw [List.length_replicate]; exact q)]
        exact e_rep
      · have : j = n + (j - n) := by omega
        rw [this, eR]
        exact hi.2 _ (by omega)
    have e2 : Ech p (n + n) (v.map fun r => List.replicate n 0 ++ r) := Ech.map (g := fun i => n + i) hv (fun r hr => (Ok.zero hp).app (hv.ok r hr)) fun r hr i hi => ⟨pR hi, fun s _ => eR s i⟩
    have et : Ech p (n + n) ((u.map fun r => r ++ withoutM p r v) ++ v.map fun r => List.replicate n 0 ++ r) := by
      refine ⟨fun r hr => (List.mem_append.mp hr).elim (e1.ok r) (e2.ok r), fun r hr => (List.mem_append.mp hr).elim (e1.one r) (e2.one r), ?_⟩
      rw [List.pairwise_append]
      refine ⟨e1.apart, e2.apart, fun a ha b hb => ?_⟩
      obtain ⟨r, hr, rfl⟩ := List.mem_map.mp ha
      obtain ⟨s, hs, rfl⟩ := List.mem_map.mp hb
      obtain ⟨i, hi, _⟩ := hu.one r hr
      obtain ⟨j, hj, _⟩ := hv.one s hs
      have hp1 : Pv (r ++ withoutM p r v) i := ⟨by rw [e_appL hi.lt]; exact hi.1, fun k hk => by rw [e_appL (Nat.lt_trans hk hi.lt)]; exact hi.2 k hk⟩
      refine ⟨fun k hk => ?_, fun k hk => ?_⟩
      · rw [hk.uniq hp1, e_appL (by rw [List.length_replicate, ← (hu.ok r hr).len]; exact hi.lt)]
        exact e_rep
      · rw [hk.uniq (pR hj)]
        have := e_appR (r := r) (s := withoutM p r v) (i := j)
        rw [(hu.ok r hr).len] at this
        rw [this]
        exact without_zero hp hv (hu.ok r hr) hs hj
    have hsw : ∀ s ∈ (redM p (dbl n u v)).map (fun r => r.drop n ++ r.take n), Ok p (n + n) s := fun s hs => by
      obtain ⟨t, ht, rfl⟩ := List.mem_map.mp hs
      exact (hc.ok t ht).drop.app (hc.ok t ht).take
    have := steinitz pr.two et hsw fun s hs => by
      have key : ∃ x y, x.length = n ∧ y.length = n ∧ s = y ++ x ∧ Sp p (n + n) (dbl n u v) (x ++ y) := by
        rcases List.mem_append.mp hs with q | q
        · obtain ⟨r, hr, rfl⟩ := List.mem_map.mp q
          have lr := (hu.ok r hr).len
          refine ⟨_, r, (wk r hr).len, lr, rfl, sp_wo hp hu.ok hv lr (fun s h => h) hv lr ?_⟩
          exact .mem hp hd (List.mem_append_left _ (List.mem_map.mpr ⟨r, hr, rfl⟩))
        · obtain ⟨r, hr, rfl⟩ := List.mem_map.mp q
          exact ⟨r, _, (hv.ok r hr).len, List.length_replicate .., rfl, .mem hp hd (List.mem_append_right _ (List.mem_map.mpr ⟨r, hr, rfl⟩))⟩
      obtain ⟨x, y, lx, ly, rfl, h⟩ := key
      have h2 := (lin_swap (p := p) (n := n)).sp hp hc.ok ((span_red pr hd).mpr h)
      rwa [List.drop_left' lx, List.take_left' lx] at h2
    rwa [List.length_append, List.length_map, List.length_map, List.length_map] at this
theorem len_both (pr : Pr p) (hu : Ech p n u) (hv : Ech p n v) : (joi p u v).length + (com p n u v).length = u.length + v.length := by
  have hp : 0 < p := Nat.lt_of_lt_of_le (by decide) pr.two
  have hd := dbl_ok hp hu.ok hv.ok
  have hc := red_ech pr hd
  have h1 : (com p n u v).length = (late n (redM p (dbl n u v))).length := by
    have := len_same pr.two (ech_com pr hu.ok hv.ok) (ech_late hc) fun r => span_red pr (ech_late hc).ok
    rwa [List.length_map] at this
  have h2 : (joi p u v).length = (early n (redM p (dbl n u v))).length := by
    have := len_same pr.two (ech_joi pr hu.ok hv.ok) (ech_early hc) fun r => by
      rw [sp_joi pr hu.ok hv.ok, sp_early hp hc]
      constructor
      · rintro ⟨a, b, ha, hb, rfl⟩
        exact ⟨a, (ha.ok hp hu.ok).len, (span_red pr hd).mpr ((sp_dbl hp hu.ok hv.ok).mpr ⟨a, b, ha, hb, rfl⟩)⟩
      · rintro ⟨y, hy, h⟩
        obtain ⟨a, b, ha, hb, q⟩ := (sp_dbl hp hu.ok hv.ok).mp ((span_red pr hd).mp h)
        have la := (ha.ok hp hu.ok).len
        obtain ⟨q1, _⟩ := List.append_inj' q (hy.trans la.symm)
        exact ⟨a, b, ha, hb, q1⟩
    rwa [List.length_map] at this
  rw [h1, h2, len_parts, len_dbl pr hu hv]
end
end Mx
end
section
set_option autoImplicit false
set_option linter.all false
namespace Mx
/-! ### sorting, by steps that the kernel can take -/
def insR (x : Row) : List Row → List Row
  | [] => [x]
  | y :: l => if y ≤ x then x :: y :: l else y :: insR x l
def isrt : List Row → List Row
  | [] => []
  | x :: l => insR x (isrt l)
theorem insR_perm (x : Row) : ∀ l, (insR x l).Perm (x :: l)
  | [] => .refl _
  | y :: l => by
    unfold insR
    split
    · exact .refl _
    · exact ((insR_perm x l).cons y).trans (.swap x y l)
theorem insR_sorted {x : Row} : ∀ {l : List Row}, (l.Pairwise fun x y => y ≤ x) → (insR x l).Pairwise fun x y => y ≤ x
  | [], _ => List.pairwise_singleton _ _
  | y :: l, h => by
    obtain ⟨h1, h2⟩ := List.pairwise_cons.mp h
    unfold insR
    split
    · rename_i q
      refine List.pairwise_cons.mpr ⟨fun z hz => ?_, h⟩
      rcases List.mem_cons.mp hz with w | w
      · rw [w]; exact q
      · exact List.le_trans (h1 z w) q
    · rename_i q
      refine List.pairwise_cons.mpr ⟨fun z hz => ?_, insR_sorted h2⟩
      rcases List.mem_cons.mp ((insR_perm x l).mem_iff.mp hz) with w | w
      · rw [w]
        exact (List.le_total x y).resolve_right q
      · exact h1 z w
theorem isrt_perm : ∀ l, (isrt l).Perm l
  | [] => .refl _
  | x :: l => (insR_perm x _).trans ((isrt_perm l).cons x)
theorem isrt_sorted : ∀ l, (isrt l).Pairwise fun x y => y ≤ x
  | [] => .nil
  | _ :: l => insR_sorted (isrt_sorted l)
theorem srt_isrt (l : List Row) : srt l = isrt l := eq_of_sorted (srt_sorted l) (isrt_sorted l) ((srt_perm l).trans (isrt_perm l).symm)
def redI (p : Nat) (rows : List Row) : List Row := isrt (rawM p rows)
theorem redM_I : @redM = @redI := by
  funext p rows
  exact srt_isrt _
section
variable {p n : Nat} {c d : List Row} {r : Row}
/-! ### the unit rows -/
structure Un (p n : Nat) (U : List Row) : Prop where
  len : U.length = n
  at' : ∀ k u, U[k]? = some u → Ok p n u ∧ ∀ i, e u i = if i = k then 1 else 0
theorem Un.ech {U : List Row} (h : Un p n U) : Ech p n U := by
  have pv : ∀ k u, U[k]? = some u → Pv u k := fun k u hu => ⟨by rw [(h.at' k u hu).2, if_pos rfl]; decide, fun j hj => by rw [(h.at' k u hu).2, if_neg (by omega)]⟩
  refine ⟨fun u hu => ?_, fun u hu => ?_, ?_⟩
  · obtain ⟨k, hk⟩ := List.mem_iff_getElem?.mp hu
    exact (h.at' k u hk).1
  · obtain ⟨k, hk⟩ := List.mem_iff_getElem?.mp hu
    exact ⟨k, pv k u hk, by rw [(h.at' k u hk).2, if_pos rfl]⟩
  · refine List.pairwise_iff_getElem.mpr fun i j hi hj hij => ?_
    have gi : U[i]? = some U[i] := List.getElem?_eq_getElem hi
    have gj : U[j]? = some U[j] := List.getElem?_eq_getElem hj
    refine ⟨fun a ha => ?_, fun a ha => ?_⟩
    · rw [ha.uniq (pv i _ gi), (h.at' j _ gj).2, if_neg (by omega)]
    · rw [ha.uniq (pv j _ gj), (h.at' i _ gi).2, if_neg (by omega)]
theorem Un.bs {U : List Row} (hp : 2 ≤ p) (h : Un p n U) : Bs p n U := bs_units hp h.len h.ech.ok fun k hk => by
  have gk : U[k]? = some (U[k]'(by rw [h.len]; exact hk)) := List.getElem?_eq_getElem _
  exact ⟨_, List.mem_of_getElem? gk, (h.at' k _ gk).2⟩
/-! ### the codes of a base -/
theorem base_len (pr : Pr p) {U : List Row} (hU : Un p n U) (b : Bs p n c) {k : Nat} (hk : k ≤ n) : (redM p (c.take k)).length = k := by
  have o1 : ∀ r ∈ c.take k, Ok p n r := fun r hr => b.ok r (List.mem_of_mem_take hr)
  have h1 := len_red (p := p) (c.take k)
  rw [List.length_take, b.len] at h1
  have hc := red_ech pr o1
  have o2 : ∀ r ∈ redM p (c.take k) ++ c.drop k, Ok p n r := fun r hr => (List.mem_append.mp hr).elim (hc.ok r) fun q => b.ok r (List.mem_of_mem_drop q)
  have h2 := steinitz pr.two hU.ech o2 fun s hs => by
    refine (b.all s (hU.ech.ok s hs)).sub (Nat.lt_of_lt_of_le (by decide) pr.two) o2 fun t ht => ?_
    rw [← List.take_append_drop k c] at ht
    rcases List.mem_append.mp ht with q | q
    · exact ((span_red pr o1).mpr (.mem (Nat.lt_of_lt_of_le (by decide) pr.two) o1 q)).mono fun y hy => List.mem_append_left _ hy
    · exact .mem (Nat.lt_of_lt_of_le (by decide) pr.two) o2 (List.mem_append_right _ q)
  rw [hU.len, List.length_append, List.length_drop, b.len] at h2
  omega
/-! ### flags -/
structure Flag (p n : Nat) (C : Nat → List Row) : Prop where
  ech : ∀ i, i ≤ n → Ech p n (C i)
  len : ∀ i, i ≤ n → (C i).length = i
  sub : ∀ i, i < n → ∀ r, Sp p n (C i) r → Sp p n (C (i + 1)) r
/-- U spans all -/
theorem com_all (pr : Pr p) (hU : ∀ r ∈ c, Ok p n r) (h : ∀ r, Ok p n r → Sp p n c r) (hd : ∀ r ∈ d, Ok p n r) : Sp p n (com p n c d) r ↔ Sp p n d r := by
  rw [sp_com pr hU hd]
  exact ⟨fun q => q.2, fun q => ⟨h r (q.ok (Nat.lt_of_lt_of_le (by decide) pr.two) hd), q⟩⟩
theorem joi_nil (pr : Pr p) (hd : ∀ r ∈ d, Ok p n r) : Sp p n (joi p [] d) r ↔ Sp p n d r := by
  unfold joi
  rw [List.nil_append, span_red pr hd]
theorem len_joi_nil (pr : Pr p) (hd : Ech p n d) : (joi p [] d).length = d.length := len_same pr.two (ech_joi pr (fun _ h => nomatch h) hd.ok) hd fun r => joi_nil pr hd.ok
theorem sum_tele (f : Nat → Int) : ∀ n, ((List.range n).map fun i => f (i + 1) - f i).sum = f n - f 0
  | 0 => by simp
  | n + 1 => by
    rw [List.range_succ, List.map_append, List.sum_append_int, sum_tele f n]
    simp
    omega
/-- one nest -/
theorem fresh_one (pr : Pr p) {U : List Row} (hU : Bs p n U) {C : Nat → List Row} (h : Flag p n C) {i : Nat} (hi : i < n) : ((com p n U (C (1 + i))).length : Int) - ((joi p [] (com p n U (C i))).length : Int) = 1 := by
  have l : ∀ j, j ≤ n → (com p n U (C j)).length = j := fun j hj => by
    rw [len_same pr.two (ech_com pr hU.ok (h.ech j hj).ok) (h.ech j hj) fun r => com_all pr hU.ok hU.all (h.ech j hj).ok]
    exact h.len j hj
  rw [l _ (by omega), len_joi_nil pr (ech_com pr hU.ok (h.ech i (by omega)).ok), l _ (by omega)]
  omega
/-- two nests -/
def met (p n : Nat) (U : List Row) (A B : Nat → List Row) (i j : Nat) : List Row := com p n (com p n U (A i)) (B j)
theorem fresh_two (pr : Pr p) {U : List Row} (hU : Bs p n U) {A B : Nat → List Row} (ha : Flag p n A) (hb : Flag p n B) {i j : Nat} (hi : i < n) (hj : j < n) :
    ((met p n U A B (1 + i) (1 + j)).length : Int) - ((joi p (joi p [] (met p n U A B i (1 + j))) (met p n U A B (1 + i) j)).length : Int) = ((met p n U A B (i + 1) (j + 1)).length : Int) - ((met p n U A B i (j + 1)).length : Int) - ((met p n U A B (i + 1) j).length : Int) + ((met p n U A B i j).length : Int) := by
  rw [Nat.add_comm 1 i, Nat.add_comm 1 j]
  have ea : ∀ i, i ≤ n → Ech p n (com p n U (A i)) := fun i hi => ech_com pr hU.ok (ha.ech i hi).ok
  have em : ∀ i j, i ≤ n → j ≤ n → Ech p n (met p n U A B i j) := fun i j hi hj => ech_com pr (ea i hi).ok (hb.ech j hj).ok
  have sm : ∀ i j r, i ≤ n → j ≤ n → (Sp p n (met p n U A B i j) r ↔ Sp p n (A i) r ∧ Sp p n (B j) r) := fun i j r hi hj => by
    unfold met
    rw [sp_com pr (ea i hi).ok (hb.ech j hj).ok, com_all pr hU.ok hU.all (ha.ech i hi).ok]
  have e1 := em i (j + 1) (by omega) (by omega)
  have e2 := em (i + 1) j (by omega) (by omega)
  have e3 := ech_joi pr (u := []) (fun _ h => nomatch h) e1.ok
  have h1 := len_both pr e3 e2
  have h2 : (com p n (joi p [] (met p n U A B i (j + 1))) (met p n U A B (i + 1) j)).length = (met p n U A B i j).length := by
    refine len_same pr.two (ech_com pr e3.ok e2.ok) (em i j (by omega) (by omega)) fun r => ?_
    rw [sp_com pr e3.ok e2.ok, joi_nil pr e1.ok, sm _ _ _ (by omega) (by omega), sm _ _ _ (by omega) (by omega), sm _ _ _ (by omega) (by omega)]
    exact ⟨fun q => ⟨q.1.1, q.2.2⟩, fun q => ⟨⟨q.1, hb.sub j hj r q.2⟩, ha.sub i hi r q.1, q.2⟩⟩
  rw [h2, len_joi_nil pr e1] at h1
  omega
theorem met_ends (pr : Pr p) {U : List Row} (hU : Bs p n U) {A B : Nat → List Row} (ha : Flag p n A) (hb : Flag p n B) (h1 : ∀ r, Ok p n r → Sp p n (A n) r) : (met p n U A B n n).length = n ∧ (∀ j, j ≤ n → (met p n U A B 0 j).length = 0) ∧ ∀ i, i ≤ n → (met p n U A B i 0).length = 0 := by
  have hp : 0 < p := Nat.lt_of_lt_of_le (by decide) pr.two
  have ea : ∀ i, i ≤ n → Ech p n (com p n U (A i)) := fun i hi => ech_com pr hU.ok (ha.ech i hi).ok
  have em : ∀ i j, i ≤ n → j ≤ n → Ech p n (met p n U A B i j) := fun i j hi hj => ech_com pr (ea i hi).ok (hb.ech j hj).ok
  have sm : ∀ i j r, i ≤ n → j ≤ n → (Sp p n (met p n U A B i j) r ↔ Sp p n (A i) r ∧ Sp p n (B j) r) := fun i j r hi hj => by
    unfold met
    rw [sp_com pr (ea i hi).ok (hb.ech j hj).ok, com_all pr hU.ok hU.all (ha.ech i hi).ok]
  refine ⟨?_, fun j hj => ?_, fun i hi => ?_⟩
  · rw [len_same pr.two (em n n (Nat.le_refl _) (Nat.le_refl _)) (hb.ech n (Nat.le_refl _)) fun r => ?_]
    · exact hb.len n (Nat.le_refl _)
    · rw [sm _ _ _ (Nat.le_refl _) (Nat.le_refl _)]
      exact ⟨fun q => q.2, fun q => ⟨h1 r (q.ok hp (hb.ech n (Nat.le_refl _)).ok), q⟩⟩
  · have := len_le pr.two (em 0 j (by omega) hj) (ha.ech 0 (by omega)).ok fun r q => ((sm _ _ _ (by omega) hj).mp q).1
    rw [ha.len 0 (by omega)] at this
    omega
  · have := len_le pr.two (em i 0 hi (by omega)) (hb.ech 0 (by omega)).ok fun r q => ((sm _ _ _ hi (by omega)).mp q).2
    rw [hb.len 0 (by omega)] at this
    omega
end
end Mx
end
section
set_option autoImplicit false
set_option linter.all false
namespace Mx
section
variable {p m n : Nat} {c d : List Row} {r s x y : Row}
/-! ### one reduced base for each span -/
theorem pv_in {i : Nat} (hp : 0 < p) (hd : Ech p m d) (h : Sp p m d x) (hx : Pv x i) : ∃ s ∈ d, Pv s i := by
  refine Classical.byContradiction fun q => ?_
  have h1 : Sp p m (d.filter fun s => decide (i < (pivM s).getD 0)) x := sp_part hp hd _ h fun s hs g j hj => by
    have g := of_decide_eq_false g
    rw [piv_some.mpr hj] at g
    have g : ¬ i < j := g
    have : j ≠ i := fun z => q ⟨s, hs, z ▸ hj⟩
    exact hx.2 j (by omega)
  refine hx.1 (cmb_off hp (hd.filter _).ok (fun s hs => ?_) h1)
  obtain ⟨h2, h3⟩ := List.mem_filter.mp hs
  obtain ⟨j, hj, _⟩ := hd.one s h2
  have h3 := of_decide_eq_true h3
  rw [piv_some.mpr hj] at h3
  exact hj.2 i h3
theorem Ech.off (hc : Ech p m c) (hr : r ∈ c) (hs : s ∈ c) {i j : Nat} (hi : Pv r i) (hj : Pv s j) (h : i ≠ j) : e r j = 0 := by
  obtain ⟨a, ha⟩ := List.mem_iff_getElem?.mp hr
  obtain ⟨b, hb⟩ := List.mem_iff_getElem?.mp hs
  obtain ⟨la, rfl⟩ := List.getElem?_eq_some_iff.mp ha
  obtain ⟨lb, rfl⟩ := List.getElem?_eq_some_iff.mp hb
  rcases Nat.lt_trichotomy a b with w | w | w
  · exact (List.pairwise_iff_getElem.mp hc.apart a b la lb w).2 j hj
  · subst w
    exact absurd (hi.uniq hj) h
  · exact (List.pairwise_iff_getElem.mp hc.apart b a lb la w).1 j hj
theorem Ech.nodup (hc : Ech p m c) : c.Nodup := hc.apart.imp_of_mem fun {a b} ha hb q z => by
  subst z
  obtain ⟨i, hi, _⟩ := hc.one a ha
  exact hi.1 (q.1 i hi)
theorem sub_zero_eq (hp : 0 < p) (or : Ok p m r) (os : Ok p m s) (h : plusM p r (-1) s = List.replicate m 0) : r = s := by
  have l := or.len.trans os.len.symm
  refine e_ext l fun i => ?_
  have q := congrArg (fun y => e y i) h
  simp only [e_rep, e_plus l] at q
  have a := or.e hp i
  have b := os.e hp i
  have e1 : e r i + -1 * e s i = e r i - e s i := by omega
  rw [e1] at q
  obtain ⟨k, hk⟩ := Int.dvd_of_emod_eq_zero q
  have p1 : (0 : Int) < p := by omega
  have : k = 0 := by
    refine Classical.byContradiction fun z => ?_
    rcases Int.lt_or_gt_of_ne z with z | z
    · have : (p : Int) * k ≤ p * (-1) := Int.mul_le_mul_of_nonneg_left (by omega) (by omega)
      omega
    · have : (p : Int) * 1 ≤ p * k := Int.mul_le_mul_of_nonneg_left (by omega) (by omega)
      omega
  subst this
  omega
theorem ech_sub (pr : Pr p) (hc : Ech p m c) (hd : Ech p m d) (h : ∀ r, Sp p m c r ↔ Sp p m d r) (hr : r ∈ c) : r ∈ d := by
  have hp : 0 < p := Nat.lt_of_lt_of_le (by decide) pr.two
  obtain ⟨i, hi, h1⟩ := hc.one r hr
  have sr := (h r).mp (.mem hp hc.ok hr)
  obtain ⟨s, hs, hsi⟩ := pv_in hp hd sr hi
  have ss := Sp.mem hp hd.ok hs
  have st := sr.plus hp hd.ok ss (-1)
  have l := (hc.ok r hr).len.trans (hd.ok s hs).len.symm
  have z := cmb_zero hp hd (sp_cmb hp hd.ok st) fun t ht j hj => by
    rw [e_plus l]
    by_cases q : i = j
    · subst q
      rw [h1, hd.pv hs hsi]
      rfl
    · obtain ⟨r2, hr2, hj2⟩ := pv_in hp hc ((h t).mpr (.mem hp hd.ok ht)) hj
      rw [hc.off hr hr2 hi hj2 q, hd.off hs ht hsi hj q]
      rfl
  rw [sub_zero_eq hp (hc.ok r hr) (hd.ok s hs) z]
  exact hs
theorem nodup_perm {α : Type} [DecidableEq α] {a b : List α} (ha : a.Nodup) (hb : b.Nodup) (h : ∀ x, x ∈ a ↔ x ∈ b) : a.Perm b := by
  rw [List.perm_iff_count]
  intro x
  rw [ha.count, hb.count]
  by_cases q : x ∈ a
  · rw [if_pos q, if_pos ((h x).mp q)]
  · rw [if_neg q, if_neg fun z => q ((h x).mpr z)]
theorem ech_perm (pr : Pr p) (hc : Ech p m c) (hd : Ech p m d) (h : ∀ r, Sp p m c r ↔ Sp p m d r) : c.Perm d :=
  nodup_perm hc.nodup hd.nodup fun _ => ⟨ech_sub pr hc hd h, ech_sub pr hd hc fun r => (h r).symm⟩
theorem red_sorted (c : List Row) : (redM p c).Pairwise fun x y => y ≤ x := srt_sorted _
theorem red_eq (pr : Pr p) (oc : ∀ r ∈ c, Ok p m r) (od : ∀ r ∈ d, Ok p m r) (h : ∀ r, Sp p m c r ↔ Sp p m d r) : redM p c = redM p d :=
  eq_of_sorted (red_sorted c) (red_sorted d) (ech_perm pr (red_ech pr oc) (red_ech pr od) fun r => by rw [span_red pr oc, span_red pr od]; exact h r)
theorem red_id (pr : Pr p) (hc : Ech p m c) (hs : c.Pairwise fun x y => y ≤ x) : redM p c = c :=
  eq_of_sorted (red_sorted c) hs (ech_perm pr (red_ech pr hc.ok) hc fun r => span_red pr hc.ok)
/-- as great, and within: the same -/
theorem sp_same (hp : 2 ≤ p) (hc : Ech p m c) (hd : Ech p m d) (h : ∀ r, Sp p m c r → Sp p m d r) (hl : c.length = d.length) (hr : Sp p m d r) : Sp p m c r := by
  have p0 : 0 < p := by omega
  refine Classical.byContradiction fun q => ?_
  have h1 := sub_len (l := r :: cmb p m c) (k := cmb p m d) (List.nodup_cons.mpr ⟨fun z => q (cmb_sp z), cmb_nodup p0 hc⟩) fun y hy => by
    rcases List.mem_cons.mp hy with z | z
    · rw [z]; exact sp_cmb p0 hd.ok hr
    · exact sp_cmb p0 hd.ok (h y (cmb_sp z))
  rw [List.length_cons, len_cmb, len_cmb, hl] at h1
  omega
/-! ### rows with marks: each has 1 at its mark, the later ones 0 -/
inductive Tri (p m : Nat) : List Row → Prop
  | nil : Tri p m []
  | cons {s : Row} {c : List Row} (i : Nat) : Ok p m s → e s i = 1 → (∀ y ∈ c, e y i = 0) → Tri p m c → Tri p m (s :: c)
theorem Tri.ok (h : Tri p m c) : ∀ r ∈ c, Ok p m r := by
  induction h with
  | nil => exact fun _ h => nomatch h
  | cons i o _ _ _ ih => exact fun r hr => (List.mem_cons.mp hr).elim (fun q => q ▸ o) (ih r)
theorem tri_nodup (hp : 0 < p) (h : Tri p m c) : (cmb p m c).Nodup := by
  induction h with
  | nil =>
    show [List.replicate m (0 : Int)].Nodup
    exact List.nodup_cons.mpr ⟨by simp, List.nodup_nil⟩
  | @cons s c i os h1 off ht ih =>
    have ls := os.len
    have z : ∀ {x : Row}, x ∈ cmb p m c → e x i = 0 := fun hx => cmb_off hp ht.ok off (cmb_sp hx)
    have ok : ∀ {x : Row}, x ∈ cmb p m c → Ok p m x := fun hx => (cmb_sp hx).ok hp ht.ok
    have at' : ∀ {x : Row} {t : Nat}, x ∈ cmb p m c → t < p → e (plusM p x t s) i = t := fun hx ht => by
      rw [e_plus ((ok hx).len.trans ls.symm), z hx, h1, Int.mul_one, Int.zero_add]
      exact mod_self ⟨by omega, by omega⟩
    refine List.pairwise_flatMap.mpr ⟨fun x hx => ?_, ?_⟩
    · rw [List.pairwise_map]
      refine List.Pairwise.imp_of_mem (fun {t u} ht hu htu q => ?_) (List.nodup_range (n := p))
      have q1 := congrArg (fun y => e y i) q
      simp only [at' hx (List.mem_range.mp ht), at' hx (List.mem_range.mp hu)] at q1
      exact htu (by omega)
    · refine List.Pairwise.imp_of_mem (fun {x y} hx hy hxy a ha b hb q => ?_) ih
      obtain ⟨t, ht, rfl⟩ := List.mem_map.mp ha
      obtain ⟨u, hu, rfl⟩ := List.mem_map.mp hb
      have q1 := congrArg (fun y => e y i) q
      simp only [at' hx (List.mem_range.mp ht), at' hy (List.mem_range.mp hu)] at q1
      have : t = u := by omega
      subst this
      exact hxy (plus_inj (ok hx) (ok hy) ls hp q)
theorem tri_steinitz (hp : 2 ≤ p) (h : Tri p m c) (hd : ∀ s ∈ d, Ok p m s) (k : ∀ s ∈ c, Sp p m d s) : c.length ≤ d.length := by
  have p0 : 0 < p := by omega
  have := sub_len (tri_nodup p0 h) fun x hx => sp_cmb p0 hd ((cmb_sp hx).sub p0 hd k)
  rw [len_cmb, len_cmb] at this
  exact (Nat.pow_le_pow_iff_right (by omega)).mp this
theorem tri_red (pr : Pr p) (h : Tri p m c) : (redM p c).length = c.length :=
  Nat.le_antisymm (len_red c) (tri_steinitz pr.two h (red_ech pr h.ok).ok fun s hs => (span_red pr h.ok).mpr (.mem (Nat.lt_of_lt_of_le (by decide) pr.two) h.ok hs))
/-! ### products of rows -/
def dot : Row → Row → Int
  | x :: r, y :: s => x * y + dot r s
  | _, _ => 0
theorem dot_zip : ∀ r s : Row, (List.zipWith (· * ·) r s).sum = dot r s
  | [], _ => rfl
  | _ :: _, [] => rfl
  | x :: r, y :: s => by
    rw [List.zipWith_cons_cons, List.sum_cons, dot_zip r s]
    rfl
theorem dot_comm : ∀ r s : Row, dot r s = dot s r
  | [], [] => rfl
  | [], _ :: _ => rfl
  | _ :: _, [] => rfl
  | x :: r, y :: s => by
    show x * y + dot r s = y * x + dot s r
    rw [dot_comm r s, Int.mul_comm]
theorem dot_plus : ∀ {r s : Row} (t : Int) (x : Row), r.length = s.length → dot (plusM p r t s) x % p = (dot r x + t * dot s x) % p
  | [], [], t, x, _ => by
    show (0 : Int) % p = (0 + t * 0) % p
    rw [Int.mul_zero]
    rfl
  | [], _ :: _, _, _, h => by cases h
  | _ :: _, [], _, _, h => by cases h
  | a :: r, b :: s, t, [], _ => by
    show (0 : Int) % p = (0 + t * 0) % p
    rw [Int.mul_zero]
    rfl
  | a :: r, b :: s, t, y :: x, h => by
    have ih := dot_plus t x (r := r) (s := s) (Nat.succ.inj h)
    show ((a + t * b) % p * y + dot (plusM p r t s) x) % p = (a * y + dot r x + t * (b * y + dot s x)) % p
    rw [Int.add_emod, ih, Int.mul_emod, Int.emod_emod, ← Int.mul_emod, ← Int.add_emod]
    congr 1
    rw [Int.add_mul, Int.mul_add, Int.mul_assoc]
    omega
theorem dot_zero : ∀ (m : Nat) (x : Row), dot (List.replicate m 0) x = 0
  | 0, _ => rfl
  | m + 1, [] => rfl
  | m + 1, y :: x => by
    show 0 * y + dot (List.replicate m 0) x = 0
    rw [dot_zero m x]
    omega
/-- x stands across to all rows of c -/
def Orth (p n : Nat) (c : List Row) (x : Row) : Prop := Ok p n x ∧ ∀ s ∈ c, dot s x % p = 0
theorem Orth.span (oc : ∀ s ∈ c, Ok p n s) (hp : 0 < p) (h : Orth p n c x) (hr : Sp p n c r) : dot r x % p = 0 := by
  induction hr with
  | zero => rw [dot_zero]; exact Int.zero_emod _
  | add t h1 hs ih =>
    rw [dot_plus t x ((h1.ok hp oc).len.trans (oc _ hs).len.symm), Int.add_emod, ih, Int.mul_emod, h.2 _ hs, Int.mul_zero]
    simp
theorem Orth.plus (oc : ∀ s ∈ c, Ok p n s) (hp : 0 < p) (h : Orth p n c x) (k : Orth p n c y) (t : Int) : Orth p n c (plusM p x t y) := by
  refine ⟨.plus hp h.1.len k.1.len t, fun s hs => ?_⟩
  rw [dot_comm, dot_plus t s (h.1.len.trans k.1.len.symm), Int.add_emod, dot_comm x, h.2 s hs, Int.mul_emod, dot_comm y, k.2 s hs, Int.mul_zero]
  simp
theorem Orth.zero (hp : 0 < p) : Orth p n c (List.replicate n 0) := ⟨.zero hp, fun s _ => by rw [dot_comm, dot_zero]; exact Int.zero_emod _⟩
theorem orth_sp (hp : 0 < p) (oc : ∀ s ∈ c, Ok p n s) (h : ∀ y ∈ d, Orth p n c y) (hx : Sp p n d x) : Orth p n c x := by
  induction hx with
  | zero => exact .zero hp
  | add t _ hs ih => exact ih.plus oc hp (h _ hs) t
theorem orth_iff (hp : 0 < p) (oc : ∀ s ∈ c, Ok p n s) (od : ∀ s ∈ d, Ok p n s) (h : ∀ r, Sp p n c r ↔ Sp p n d r) : Orth p n c x ↔ Orth p n d x :=
  ⟨fun k => ⟨k.1, fun s hs => k.span oc hp ((h s).mpr (.mem hp od hs))⟩, fun k => ⟨k.1, fun s hs => k.span od hp ((h s).mp (.mem hp oc hs))⟩⟩
/-- entries of a row, one after the other -/
theorem dot_none : ∀ (n : Nat) (r x : Row), r.length = n → (∀ i, i < n → e r i * e x i = 0) → dot r x = 0
  | _, [], _, _, _ => rfl
  | _, _ :: _, [], _, _ => rfl
  | 0, _ :: _, _ :: _, h, _ => by cases h
  | n + 1, a :: r, b :: x, h, z => by
    have h0 : a * b = 0 := z 0 (by omega)
    show a * b + dot r x = 0
    rw [h0, dot_none n r x (Nat.succ.inj h) fun i hi => z (i + 1) (by omega)]
    rfl
theorem dot_single : ∀ (n k : Nat) (r x : Row), r.length = n → k < n → (∀ i, i < n → i ≠ k → e r i * e x i = 0) → dot r x = e r k * e x k
  | 0, k, _, _, _, h, _ => absurd h (Nat.not_lt_zero _)
  | n + 1, k, [], _, h, _, _ => by cases h
  | n + 1, 0, a :: r, [], h, _, z => by
    show (0 : Int) = a * 0
    omega
  | n + 1, k + 1, a :: r, [], h, _, z => by
    show (0 : Int) = e r k * 0
    omega
  | n + 1, 0, a :: r, b :: x, h, _, z => by
    have : dot r x = 0 := dot_none n r x (Nat.succ.inj h) fun i hi => z (i + 1) (by omega) (by omega)
    show a * b + dot r x = a * b
    omega
  | n + 1, k + 1, a :: r, b :: x, h, hk, z => by
    have h0 : a * b = 0 := z 0 (by omega) (by omega)
    show a * b + dot r x = e r k * e x k
    rw [h0, dot_single n k r x (Nat.succ.inj h) (by omega) fun i hi hk => z (i + 1) (by omega) (by omega)]
    omega
end
end Mx
end
section
set_option autoImplicit false
set_option linter.all false
namespace Mx
section
variable {p m n : Nat} {c d : List Row} {r s x y : Row}
theorem dot_two : ∀ (n k l : Nat) (r x : Row), r.length = n → k < l → l < n → (∀ i, i < n → i ≠ k → i ≠ l → e r i * e x i = 0) → dot r x = e r k * e x k + e r l * e x l
  | 0, _, _, _, _, _, _, h, _ => absurd h (Nat.not_lt_zero _)
  | n + 1, _, _, [], _, h, _, _, _ => by cases h
  | n + 1, k, l, a :: r, [], h, _, _, z => by
    have h1 : e ([] : Row) k = 0 := rfl
    have h2 : e ([] : Row) l = 0 := rfl
    show (0 : Int) = _
    rw [h1, h2]
    omega
  | n + 1, 0, l + 1, a :: r, b :: x, h, _, hl, z => by
    show a * b + dot r x = a * b + e r l * e x l
    rw [dot_single n l r x (Nat.succ.inj h) (by omega) fun i hi hk => z (i + 1) (by omega) (by omega) (by omega)]
  | n + 1, k + 1, l + 1, a :: r, b :: x, h, hk, hl, z => by
    have h0 : a * b = 0 := z 0 (by omega) (by omega) (by omega)
    show a * b + dot r x = e r k * e x k + e r l * e x l
    rw [h0, dot_two n k l r x (Nat.succ.inj h) (by omega) (by omega) fun i hi h1 h2 => z (i + 1) (by omega) (by omega) (by omega)]
    omega
/-! ### a code turned -/
def unitR (n k : Nat) : Row := (List.range n).map fun i => if i = k then 1 else 0
theorem len_unitR (n k : Nat) : (unitR n k).length = n := by unfold unitR; rw [List.length_map, List.length_range]
theorem e_unitR {n k i : Nat} (h : i < n) : e (unitR n k) i = if i = k then 1 else 0 := by
  rw [e_lt (by rw [len_unitR]; exact h)]
  unfold unitR
  rw [List.getElem_map, List.getElem_range]
def rowT (p : Nat) (col : Nat) (code : List Row) (row : Row) : Row := code.foldl (fun row base => row.set ((pivM base).getD 0) (-(e base col) % p)) row
theorem e_set {r : Row} {i j : Nat} {v : Int} (h : i < r.length) : e (r.set i v) j = if i = j then v else e r j := by
  unfold e
  rw [List.getD_eq_getElem?_getD, List.getD_eq_getElem?_getD]
  by_cases q : i = j
  · subst q
    rw [if_pos rfl, List.getElem?_set_self h]
    rfl
  · rw [if_neg q, List.getElem?_set_ne q]
theorem len_rowT (p col : Nat) : ∀ (code : List Row) (row : Row), (rowT p col code row).length = row.length
  | [], _ => rfl
  | b :: code, row => by
    show (rowT p col code _).length = _
    rw [len_rowT p col code, List.length_set]
theorem rowT_off (p col : Nat) : ∀ {code : List Row} {row : Row} {k : Nat}, Ech p n code → row.length = n → (∀ s ∈ code, ¬ Pv s k) → e (rowT p col code row) k = e row k
  | [], _, _, _, _, _ => rfl
  | b :: code, row, k, h, hl, z => by
    obtain ⟨i, hi, _⟩ := h.one b (List.mem_cons_self ..)
    have li : i < row.length := by rw [hl, ← (h.ok b (List.mem_cons_self ..)).len]; exact hi.lt
    show e (rowT p col code (row.set ((pivM b).getD 0) (-(e b col) % p))) k = _
    rw [rowT_off p col h.tail (by rw [List.length_set, hl]) fun s hs => z s (List.mem_cons_of_mem _ hs), piv_some.mpr hi]
    show e (row.set i _) k = _
    rw [e_set li, if_neg (fun q : i = k => z b (List.mem_cons_self ..) (q ▸ hi))]
theorem rowT_at (p col : Nat) : ∀ {code : List Row} {row : Row} {k : Nat} {s : Row}, Ech p n code → row.length = n → s ∈ code → Pv s k → e (rowT p col code row) k = -(e s col) % p
  | [], _, _, _, _, _, h, _ => nomatch h
  | b :: code, row, k, s, h, hl, hs, hk => by
    obtain ⟨i, hi, _⟩ := h.one b (List.mem_cons_self ..)
    have li : i < row.length := by rw [hl, ← (h.ok b (List.mem_cons_self ..)).len]; exact hi.lt
    show e (rowT p col code (row.set ((pivM b).getD 0) (-(e b col) % p))) k = _
    rcases List.mem_cons.mp hs with q | q
    · subst q
      rw [rowT_off p col h.tail (by rw [List.length_set, hl]) fun t ht ht2 => ?_, piv_some.mpr hi]
      · show e (row.set i _) k = _
        rw [e_set li, if_pos (hi.uniq hk)]
      · exact ht2.1 (((List.pairwise_cons.mp h.apart).1 t ht).1 k hk)
    · exact rowT_at p col h.tail (by rw [List.length_set, hl]) q hk
/-- the columns without a pivot -/
def freeC (n : Nat) (code : List Row) : List Nat := (List.range n).filter fun c => decide (c ∉ pvs code)
def foundT (p n : Nat) (code : List Row) : List Row := (freeC n code).map fun c => rowT p c code (unitR n c)
def turnM (p n : Nat) (code : List Row) : List Row := redM p (foundT p n code)
theorem free_mem (hc : Ech p n c) {k : Nat} : k ∈ freeC n c ↔ k < n ∧ ∀ s ∈ c, ¬ Pv s k := by
  unfold freeC
  rw [List.mem_filter, List.mem_range, decide_eq_true_eq, pvs_mem hc]
  constructor
  · rintro ⟨h1, h2⟩
    exact ⟨h1, fun s hs hk => h2 ⟨s, hs, hk⟩⟩
  · rintro ⟨h1, h2⟩
    exact ⟨h1, fun ⟨s, hs, hk⟩ => h2 s hs hk⟩
theorem len_free (hc : Ech p n c) : (freeC n c).length + c.length = n := by
  have h1 : ((List.range n).filter fun k => !decide (k ∉ pvs c)).Perm (pvs c) := nodup_perm (List.nodup_range.filter _) (pvs_nodup hc) fun k => by
    rw [List.mem_filter, List.mem_range]
    constructor
    · rintro ⟨_, h⟩
      simpa using h
    · intro h
      obtain ⟨s, hs, hk⟩ := (pvs_mem hc).mp h
      exact ⟨by rw [← (hc.ok s hs).len]; exact hk.lt, by simpa using h⟩
  have h2 := (List.filter_append_perm (fun k => decide (k ∉ pvs c)) (List.range n)).length_eq
  rw [List.length_append, h1.length_eq, List.length_range] at h2
  unfold pvs at h2
  rw [List.length_map] at h2
  exact h2
theorem ok_rowT (hp : 2 ≤ p) (hc : Ech p n c) {k : Nat} : Ok p n (rowT p k c (unitR n k)) := by
  refine .of (by rw [len_rowT, len_unitR]) fun i => ?_
  by_cases q : ∃ s ∈ c, Pv s i
  · obtain ⟨s, hs, hi⟩ := q
    rw [rowT_at p k hc (len_unitR n k) hs hi]
    exact ⟨Int.emod_nonneg _ (by omega), Int.emod_lt_of_pos _ (by omega)⟩
  · rw [rowT_off p k hc (len_unitR n k) fun s hs hi => q ⟨s, hs, hi⟩]
    by_cases h : i < n
    · rw [e_unitR h]
      split <;> omega
    · rw [e_ge (by rw [len_unitR]; omega)]
      omega
theorem rowT_free (hc : Ech p n c) {k i : Nat} (hi : i ∈ freeC n c) : e (rowT p k c (unitR n k)) i = if i = k then 1 else 0 := by
  obtain ⟨h1, h2⟩ := (free_mem hc).mp hi
  rw [rowT_off p k hc (len_unitR n k) h2, e_unitR h1]
theorem tri_list (hp : 2 ≤ p) (hc : Ech p n c) : ∀ {l : List Nat}, l.Nodup → (∀ k ∈ l, k ∈ freeC n c) → Tri p n (l.map fun k => rowT p k c (unitR n k))
  | [], _, _ => .nil
  | k :: l, nd, h => by
    obtain ⟨h1, h2⟩ := List.nodup_cons.mp nd
    refine .cons k (ok_rowT hp hc) (by rw [rowT_free hc (h k (List.mem_cons_self ..)), if_pos rfl]) (fun y hy => ?_) (tri_list hp hc h2 fun i hi => h i (List.mem_cons_of_mem _ hi))
    obtain ⟨i, hi, rfl⟩ := List.mem_map.mp hy
    rw [rowT_free hc (h k (List.mem_cons_self ..)), if_neg (fun q : k = i => h1 (q ▸ hi))]
theorem tri_found (hp : 2 ≤ p) (hc : Ech p n c) : Tri p n (foundT p n c) := tri_list hp hc (List.nodup_range.filter _) fun _ h => h
theorem len_turn (pr : Pr p) (hc : Ech p n c) : (turnM p n c).length + c.length = n := by
  unfold turnM
  rw [tri_red pr (tri_found pr.two hc)]
  unfold foundT
  rw [List.length_map]
  exact len_free hc
theorem ech_turn (pr : Pr p) (hc : Ech p n c) : Ech p n (turnM p n c) := red_ech pr (tri_found pr.two hc).ok
theorem orth_found (hp : 2 ≤ p) (hc : Ech p n c) {k : Nat} (hk : k ∈ freeC n c) : Orth p n c (rowT p k c (unitR n k)) := by
  refine ⟨ok_rowT hp hc, fun s hs => ?_⟩
  obtain ⟨j, hj, h1⟩ := hc.one s hs
  obtain ⟨kn, kp⟩ := (free_mem hc).mp hk
  have ls := (hc.ok s hs).len
  have jn : j < n := ls ▸ hj.lt
  have jk : j ≠ k := fun q => kp s hs (q ▸ hj)
  have ej : e (rowT p k c (unitR n k)) j = -(e s k) % p := rowT_at p k hc (len_unitR n k) hs hj
  have ek : e (rowT p k c (unitR n k)) k = 1 := by rw [rowT_free hc hk, if_pos rfl]
  have z : ∀ i, i < n → i ≠ k → i ≠ j → e s i * e (rowT p k c (unitR n k)) i = 0 := fun i hi h2 h3 => by
    by_cases q : ∃ t ∈ c, Pv t i
    · obtain ⟨t, ht, hti⟩ := q
      rw [hc.off hs ht hj hti (Ne.symm h3), Int.zero_mul]
    · rw [rowT_off p k hc (len_unitR n k) fun t ht hti => q ⟨t, ht, hti⟩, e_unitR hi, if_neg h2, Int.mul_zero]
  have d : dot s (rowT p k c (unitR n k)) = e s k + -(e s k) % p := by
    rcases Nat.lt_or_gt_of_ne jk with w | w
    · rw [dot_two n j k s _ ls w kn fun i hi h2 h3 => z i hi h3 h2, h1, ej, ek]
      omega
    · rw [dot_two n k j s _ ls w jn z, h1, ej, ek]
      omega
  rw [d, Int.add_emod, Int.emod_emod, ← Int.add_emod, Int.add_right_neg, Int.zero_emod]
/-- what has these entries at the columns without pivots -/
theorem fill (hp : 2 ≤ p) (hc : Ech p n c) (ox : Ok p n x) : ∀ {l : List Nat}, l.Nodup → (∀ k ∈ l, k ∈ freeC n c) → ∃ y, Sp p n (l.map fun k => rowT p k c (unitR n k)) y ∧ ∀ k ∈ l, e y k = e x k
  | [], _, _ => ⟨_, .zero, fun _ h => nomatch h⟩
  | k :: l, nd, h => by
    have p0 : 0 < p := by omega
    obtain ⟨h1, h2⟩ := List.nodup_cons.mp nd
    have hl : ∀ i ∈ l, i ∈ freeC n c := fun i hi => h i (List.mem_cons_of_mem _ hi)
    obtain ⟨y, hy, ey⟩ := fill hp hc ox h2 hl
    have tr := tri_list hp hc h2 hl
    have oy := hy.ok p0 tr.ok
    have ok := ok_rowT (k := k) hp hc
    have kf := h k (List.mem_cons_self ..)
    refine ⟨plusM p y (e x k) (rowT p k c (unitR n k)), .add _ (hy.mono fun s hs => List.mem_cons_of_mem _ hs) (List.mem_cons_self ..), fun i hi => ?_⟩
    rw [e_plus (oy.len.trans ok.len.symm)]
    rcases List.mem_cons.mp hi with q | q
    · subst q
      rw [cmb_off p0 tr.ok (fun s hs => ?_) hy, rowT_free hc kf, if_pos rfl, Int.mul_one, Int.zero_add]
      · exact mod_self (ox.e p0 i)
      · obtain ⟨j, hj, rfl⟩ := List.mem_map.mp hs
        rw [rowT_free hc kf, if_neg (fun q : i = j => h1 (q ▸ hj))]
    · rw [rowT_free hc (hl i q), if_neg (fun z : i = k => h1 (z ▸ q)), Int.mul_zero, Int.add_zero, ey i q]
      exact mod_self (ox.e p0 i)
theorem sp_found (hp : 2 ≤ p) (hc : Ech p n c) : Sp p n (foundT p n c) x ↔ Orth p n c x := by
  have p0 : 0 < p := by omega
  constructor
  · refine orth_sp p0 hc.ok fun y hy => ?_
    obtain ⟨k, hk, rfl⟩ := List.mem_map.mp hy
    exact orth_found hp hc hk
  · intro h
    obtain ⟨y, hy, ey⟩ := fill hp hc h.1 (l := freeC n c) (List.nodup_range.filter _) fun _ h => h
    have oy : Orth p n c y := orth_sp p0 hc.ok (fun s hs => by
      obtain ⟨k, hk, rfl⟩ := List.mem_map.mp hs
      exact orth_found hp hc hk) hy
    have oz := h.plus hc.ok p0 oy (-1)
    have l := h.1.len.trans oy.1.len.symm
    have zf : ∀ k ∈ freeC n c, e (plusM p x (-1) y) k = 0 := fun k hk => by
      rw [e_plus l, ey k hk]
      have : e x k + -1 * e x k = 0 := by omega
      rw [this, Int.zero_emod]
    have zp : ∀ s ∈ c, ∀ j, Pv s j → e (plusM p x (-1) y) j = 0 := fun s hs j hj => by
      have h1 := hc.pv hs hj
      have d : dot s (plusM p x (-1) y) = e (plusM p x (-1) y) j := by
        rw [dot_single n j s _ (hc.ok s hs).len ((hc.ok s hs).len ▸ hj.lt) fun i hi hij => ?_, h1, Int.one_mul]
        by_cases q : ∃ t ∈ c, Pv t i
        · obtain ⟨t, ht, hti⟩ := q
          rw [hc.off hs ht hj hti (Ne.symm hij), Int.zero_mul]
        · rw [zf i ((free_mem hc).mpr ⟨hi, fun t ht hti => q ⟨t, ht, hti⟩⟩), Int.mul_zero]
      have := oz.2 s hs
      rw [d] at this
      rw [← this]
      exact (mod_self (oz.1.e p0 j)).symm
    have z0 : plusM p x (-1) y = List.replicate n 0 := zero_of oz.1 fun i => by
      by_cases q : ∃ s ∈ c, Pv s i
      · obtain ⟨s, hs, hi⟩ := q
        exact zp s hs i hi
      · by_cases hi : i < n
        · exact zf i ((free_mem hc).mpr ⟨hi, fun t ht hti => q ⟨t, ht, hti⟩⟩)
        · exact e_ge (by rw [oz.1.len]; omega)
    rw [sub_zero_eq p0 h.1 oy.1 z0]
    exact hy
theorem sp_turn (pr : Pr p) (hc : Ech p n c) : Sp p n (turnM p n c) x ↔ Orth p n c x := by
  unfold turnM
  rw [span_red pr (tri_found pr.two hc).ok, sp_found pr.two hc]
theorem orth_turn (pr : Pr p) (hc : Ech p n c) : Orth p n (turnM p n c) x ↔ Sp p n c x := by
  have p0 : 0 < p := Nat.lt_of_lt_of_le (by decide) pr.two
  have e1 := ech_turn pr hc
  have e2 := ech_turn pr e1
  have sub : ∀ r, Sp p n c r → Sp p n (turnM p n (turnM p n c)) r := fun r hr => (sp_turn pr e1).mpr ⟨hr.ok p0 hc.ok, fun s hs => by
    have := (sp_turn pr hc).mp (.mem p0 e1.ok hs)
    rw [dot_comm]
    exact this.span hc.ok p0 hr⟩
  have l1 := len_turn pr hc
  have l2 := len_turn pr e1
  rw [← sp_turn pr e1]
  exact ⟨sp_same pr.two hc e2 sub (by omega), sub x⟩
theorem turn_turn (pr : Pr p) (hc : Ech p n c) (hs : c.Pairwise fun x y => y ≤ x) : turnM p n (turnM p n c) = c := by
  have e1 := ech_turn pr hc
  have := red_eq pr (tri_found pr.two e1).ok hc.ok fun r => by rw [sp_found pr.two e1, orth_turn pr hc]
  rw [red_id pr hc hs] at this
  exact this
/-- by all rows that stand across -/
theorem turn_all (pr : Pr p) (hc : Ech p n c) (h : ∀ x, x ∈ d ↔ Orth p n c x) : redM p d = turnM p n c := by
  have p0 : 0 < p := Nat.lt_of_lt_of_le (by decide) pr.two
  refine red_eq pr (fun r hr => ((h r).mp hr).1) (tri_found pr.two hc).ok fun r => ?_
  rw [sp_found pr.two hc]
  exact ⟨orth_sp p0 hc.ok fun y hy => (h y).mp hy, fun k => .mem p0 (fun s hs => ((h s).mp hs).1) ((h r).mpr k)⟩
/-! ### codes of some rows of a base -/
theorem len_coord (pr : Pr p) {U : List Row} (hU : Un p n U) (b : Bs p n c) {S T : List Row} (h : (S ++ T).Perm c) : (redM p S).length = S.length := by
  have p0 : 0 < p := Nat.lt_of_lt_of_le (by decide) pr.two
  have oS : ∀ r ∈ S, Ok p n r := fun r hr => b.ok r (h.mem_iff.mp (List.mem_append_left _ hr))
  have oT : ∀ r ∈ T, Ok p n r := fun r hr => b.ok r (h.mem_iff.mp (List.mem_append_right _ hr))
  have hc := red_ech pr oS
  have o2 : ∀ r ∈ redM p S ++ T, Ok p n r := fun r hr => (List.mem_append.mp hr).elim (hc.ok r) (oT r)
  have h2 := steinitz pr.two hU.ech o2 fun s hs => by
    refine (b.all s (hU.ech.ok s hs)).sub p0 o2 fun t ht => ?_
    rcases List.mem_append.mp (h.mem_iff.mpr ht) with q | q
    · exact ((span_red pr oS).mpr (.mem p0 oS q)).mono fun y hy => List.mem_append_left _ hy
    · exact .mem p0 o2 (List.mem_append_right _ q)
  have h3 := len_red (p := p) S
  have h4 := h.length_eq
  rw [hU.len, List.length_append] at h2
  rw [List.length_append, b.len] at h4
  omega
def rowsAt (c : List Row) (n : Nat) (P : Nat → Bool) : List Row := ((List.range n).filter P).map fun a => c.getD a []
theorem getD_map (hl : c.length = n) : (List.range n).map (fun a => c.getD a []) = c := by
  refine List.ext_getElem (by rw [List.length_map, List.length_range, hl]) fun i h3 h4 => ?_
  rw [List.getElem_map, List.getElem_range, List.getD_eq_getElem?_getD, List.getElem?_eq_getElem h4]
  rfl
theorem len_rowsAt (pr : Pr p) {U : List Row} (hU : Un p n U) (b : Bs p n c) (P : Nat → Bool) : (redM p (rowsAt c n P)).length = (List.range n).countP P := by
  have h1 := (List.filter_append_perm P (List.range n)).map fun a => c.getD a []
  rw [List.map_append, getD_map b.len] at h1
  show (redM p (((List.range n).filter P).map fun a => c.getD a [])).length = _
  rw [len_coord pr hU b h1]
  rw [List.length_map, List.countP_eq_length_filter]
theorem mem_rowsAt (b : Bs p n c) {P : Nat → Bool} : r ∈ rowsAt c n P ↔ ∃ a, P a = true ∧ c[a]? = some r := by
  unfold rowsAt
  rw [List.mem_map]
  constructor
  · rintro ⟨a, ha, rfl⟩
    obtain ⟨h1, h2⟩ := List.mem_filter.mp ha
    have : a < c.length := by rw [b.len]; exact List.mem_range.mp h1
    exact ⟨a, h2, by rw [List.getD_eq_getElem?_getD, List.getElem?_eq_getElem this]; rfl⟩
  · rintro ⟨a, h2, h3⟩
    obtain ⟨h4, _⟩ := List.getElem?_eq_some_iff.mp h3
    exact ⟨a, List.mem_filter.mpr ⟨List.mem_range.mpr (b.len ▸ h4), h2⟩, by rw [List.getD_eq_getElem?_getD, h3]; rfl⟩
/-- two codes joined, each of some rows of one base -/
theorem len_joi_at (pr : Pr p) {U : List Row} (hU : Un p n U) (b : Bs p n c) {u v : List Row} {P Q : Nat → Bool} (ou : ∀ r ∈ u, Ok p n r) (ov : ∀ r ∈ v, Ok p n r) (hu : ∀ r, Sp p n u r ↔ Sp p n (rowsAt c n P) r) (hv : ∀ r, Sp p n v r ↔ Sp p n (rowsAt c n Q) r) :
    (joi p u v).length = (List.range n).countP fun a => P a || Q a := by
  have p0 : 0 < p := Nat.lt_of_lt_of_le (by decide) pr.two
  have oa : ∀ {P : Nat → Bool}, ∀ r ∈ rowsAt c n P, Ok p n r := fun {P} r hr => by
    obtain ⟨a, _, h⟩ := (mem_rowsAt b).mp hr
    exact b.ok r (List.mem_of_getElem? h)
  rw [← len_rowsAt pr hU b]
  unfold joi
  refine len_same pr.two (red_ech pr fun r hr => (List.mem_append.mp hr).elim (ou r) (ov r)) (red_ech pr oa) fun r => ?_
  have ouv : ∀ r ∈ u ++ v, Ok p n r := fun r hr => (List.mem_append.mp hr).elim (ou r) (ov r)
  rw [span_red pr ouv, span_red pr oa]
  constructor
  · refine fun h => h.sub p0 oa fun s hs => ?_
    rcases List.mem_append.mp hs with q | q
    · refine ((hu s).mp (.mem p0 ou q)).mono fun t ht => ?_
      obtain ⟨a, h1, h2⟩ := (mem_rowsAt b).mp ht
      exact (mem_rowsAt b).mpr ⟨a, by rw [h1]; rfl, h2⟩
    · refine ((hv s).mp (.mem p0 ov q)).mono fun t ht => ?_
      obtain ⟨a, h1, h2⟩ := (mem_rowsAt b).mp ht
      exact (mem_rowsAt b).mpr ⟨a, by rw [h1, Bool.or_true], h2⟩
  · refine fun h => h.sub p0 ouv fun s hs => ?_
    obtain ⟨a, h1, h2⟩ := (mem_rowsAt b).mp hs
    rcases Bool.or_eq_true_iff.mp h1 with q | q
    · exact ((hu s).mpr (.mem p0 oa ((mem_rowsAt b).mpr ⟨a, q, h2⟩))).mono fun y hy => List.mem_append_left _ hy
    · exact ((hv s).mpr (.mem p0 oa ((mem_rowsAt b).mpr ⟨a, q, h2⟩))).mono fun y hy => List.mem_append_right _ hy
end
end Mx
end
section
set_option autoImplicit false
set_option linter.all false
namespace Mx
/-! ### counting -/
theorem countP_or {P Q : Nat → Bool} : ∀ l : List Nat, (l.countP fun a => P a || Q a) + (l.countP fun a => P a && Q a) = l.countP P + l.countP Q
  | [] => rfl
  | x :: l => by
    have ih := countP_or (P := P) (Q := Q) l
    simp only [List.countP_cons]
    cases P x <;> cases Q x <;> simp <;> omega
theorem countP_not {P : Nat → Bool} : ∀ l : List Nat, l.countP P + (l.countP fun a => !P a) = l.length
  | [] => rfl
  | x :: l => by
    have ih := countP_not (P := P) l
    simp only [List.countP_cons, List.length_cons]
    cases P x <;> simp <;> omega
theorem countP_lt (n k : Nat) (h : k ≤ n) : ((List.range n).countP fun a => decide (a < k)) = k := by
  induction n with
  | zero => simp; omega
  | succ n ih =>
    rw [List.range_succ, List.countP_append]
    by_cases q : k ≤ n
    · rw [ih q]
      simp
      omega
    · have : k = n + 1 := by omega
      subst this
      have e : ((List.range n).countP fun a => decide (a < n + 1)) = n := by
        rw [List.countP_eq_length.mpr fun a ha => decide_eq_true (by have := List.mem_range.mp ha; omega), List.length_range]
      rw [e]
      simp
/-- o: the order's numbers by their places -/
def ordN (order : List Nat) (a : Nat) : Nat := order.getD a 0
section
variable {n : Nat} {order : List Nat}
theorem ord_map (po : order.Perm (List.range n)) : (List.range n).map (ordN order) = order := by
  have l : order.length = n := by rw [po.length_eq, List.length_range]
  refine List.ext_getElem (by rw [List.length_map, List.length_range, l]) fun i h3 h4 => ?_
  rw [List.getElem_map, List.getElem_range]
  unfold ordN
  rw [List.getD_eq_getElem?_getD, List.getElem?_eq_getElem h4]
  rfl
theorem ord_lt (po : order.Perm (List.range n)) {a : Nat} (h : a < n) : ordN order a < n := by
  have l : order.length = n := by rw [po.length_eq, List.length_range]
  have e : ordN order a = order[a] := by
    unfold ordN
    rw [List.getD_eq_getElem?_getD, List.getElem?_eq_getElem (by omega)]
    rfl
  rw [e]
  exact List.mem_range.mp (po.mem_iff.mp (List.getElem_mem _))
theorem countP_ord (po : order.Perm (List.range n)) {k : Nat} (h : k ≤ n) : ((List.range n).countP fun a => decide (ordN order a < k)) = k := by
  have e : ((List.range n).countP fun a => decide (ordN order a < k)) = ((List.range n).map (ordN order)).countP fun b => decide (b < k) := by
    rw [List.countP_map]
    rfl
  rw [e, ord_map po, po.countP_eq, countP_lt n k h]
theorem countP_one {P Q : Nat → Bool} {k : Nat} (h : ∀ a, a ≠ k → P a = Q a) (hq : Q k = false) : ∀ {l : List Nat}, l.Nodup → k ∈ l → l.countP P = l.countP Q + if P k then 1 else 0
  | x :: l, nd, hk => by
    obtain ⟨h1, h2⟩ := List.nodup_cons.mp nd
    simp only [List.countP_cons]
    rcases List.mem_cons.mp hk with q | q
    · subst q
      have e : l.countP P = l.countP Q := by
        refine List.countP_congr fun a ha => ?_
        rw [h a fun z => h1 (z ▸ ha)]
      rw [e, hq]
      simp
    · rw [countP_one h hq h2 q, h x fun z => h1 (z ▸ q)]
      omega
/-- how many a are at least n - i, with numbers of at least n - j -/
def far (n : Nat) (order : List Nat) (i j : Nat) : Nat := (List.range n).countP fun a => decide (n ≤ a + i) && decide (n ≤ ordN order a + j)
theorem far_or (po : order.Perm (List.range n)) {i j : Nat} : (List.range n).countP (fun a => decide (a < n - i) || decide (ordN order a < n - j)) + far n order i j = n := by
  have h0 := countP_not (P := fun a => decide (a < n - i) || decide (ordN order a < n - j)) (List.range n)
  rw [List.length_range] at h0
  have e : far n order i j = (List.range n).countP fun a => !(decide (a < n - i) || decide (ordN order a < n - j)) := by
    unfold far
    refine List.countP_congr fun a ha => ?_
    have h1 := List.mem_range.mp ha
    have h2 := ord_lt po h1
    simp
  omega
theorem far_step (po : order.Perm (List.range n)) {i j : Nat} (hi : i < n) : far n order (i + 1) j = far n order i j + if n ≤ ordN order (n - 1 - i) + j then 1 else 0 := by
  have e1 : ∀ a, a ≠ n - 1 - i → (decide (n ≤ a + (i + 1)) && decide (n ≤ ordN order a + j)) = (decide (n ≤ a + i) && decide (n ≤ ordN order a + j)) := fun a ha => by
    congr 1
    by_cases q : n ≤ a + i
    · rw [decide_eq_true (show n ≤ a + (i + 1) by omega), decide_eq_true q]
    · rw [decide_eq_false q, decide_eq_false (show ¬ n ≤ a + (i + 1) by omega)]
  have e2 : (decide (n ≤ n - 1 - i + i) && decide (n ≤ ordN order (n - 1 - i) + j)) = false := by
    rw [decide_eq_false (show ¬ n ≤ n - 1 - i + i by omega)]
    rfl
  unfold far
  rw [countP_one (k := n - 1 - i) e1 e2 List.nodup_range (List.mem_range.mpr (by omega))]
  congr 1
  have : n ≤ n - 1 - i + (i + 1) := by omega
  by_cases q : n ≤ ordN order (n - 1 - i) + j
  · rw [if_pos q, if_pos]
    simp [this, q]
  · rw [if_neg q, if_neg]
    simp [q]
/-- the order turned -/
def turnO (order : List Nat) : List Nat := order.reverse.map fun k => order.length - 1 - k
theorem len_turnO : (turnO order).length = order.length := by unfold turnO; rw [List.length_map, List.length_reverse]
theorem turnO_at {i : Nat} (h : i < order.length) : (turnO order)[i]? = some (order.length - 1 - ordN order (order.length - 1 - i)) := by
  unfold turnO ordN
  rw [List.getElem?_map, List.getElem?_reverse h, List.getD_eq_getElem?_getD, List.getElem?_eq_getElem (by omega)]
  rfl
theorem turnO_turnO (h : ∀ k ∈ order, k < order.length) : turnO (turnO order) = order := by
  have l1 : (turnO (turnO order)).length = order.length := by rw [len_turnO, len_turnO]
  refine List.ext_getElem? fun i => ?_
  by_cases q : i < order.length
  · rw [turnO_at (by rw [len_turnO]; exact q), len_turnO]
    unfold ordN
    rw [List.getD_eq_getElem?_getD, turnO_at (by omega)]
    unfold ordN
    rw [show order.length - 1 - (order.length - 1 - i) = i by omega, List.getD_eq_getElem?_getD, List.getElem?_eq_getElem q]
    have := h _ (List.getElem_mem q)
    simp
    omega
  · rw [List.getElem?_eq_none (by omega), List.getElem?_eq_none (by omega)]
/-! ### inversions -/
def invO (f : Nat → Int) (n : Nat) : Nat := ((List.range n).map fun a => ((List.range a).countP fun b => decide (f b > f a))).sum
theorem sum_swap (g : Nat → Nat → Nat) : ∀ (l m : List Nat), (l.map fun a => (m.map fun b => g a b).sum).sum = (m.map fun b => (l.map fun a => g a b).sum).sum
  | [], m => by
    induction m with
    | nil => rfl
    | cons b m ih =>
      rw [List.map_cons, List.sum_cons, ← ih]
      rfl
  | a :: l, m => by
    rw [List.map_cons, List.sum_cons, sum_swap g l m]
    induction m with
    | nil => rfl
    | cons b m ih =>
      simp only [List.map_cons, List.sum_cons] at ih ⊢
      omega
theorem sum_rev (n : Nat) (g : Nat → Nat) : ((List.range n).map g).sum = ((List.range n).map fun i => g (n - 1 - i)).sum := by
  have : ((List.range n).map fun i => g (n - 1 - i)) = ((List.range n).map g).reverse := by
    refine List.ext_getElem (by simp) fun i h1 h2 => ?_
    simp
  rw [this, List.sum_reverse]
theorem count_if (a : Nat) (P : Nat → Bool) (n : Nat) (h : a ≤ n) : (List.range a).countP P = ((List.range n).map fun b => if b < a ∧ P b = true then 1 else 0).sum := by
  induction n with
  | zero =>
    have : a = 0 := by omega
    subst this
    rfl
  | succ n ih =>
    rw [List.range_succ, List.map_append, List.sum_append]
    by_cases q : a ≤ n
    · rw [← ih q]
      simp
      omega
    · have : a = n + 1 := by omega
      subst this
      have e : ((List.range n).map fun b => if b < n + 1 ∧ P b = true then 1 else 0).sum = (List.range n).countP P := by
        have : ∀ l : List Nat, (∀ b ∈ l, b < n + 1) → (l.map fun b => if b < n + 1 ∧ P b = true then 1 else 0).sum = l.countP P := by
          intro l
          induction l with
          | nil => exact fun _ => rfl
          | cons b l ih =>
            intro hb
            rw [List.map_cons, List.sum_cons, ih fun x hx => hb x (List.mem_cons_of_mem _ hx), List.countP_cons]
            have := hb b (List.mem_cons_self ..)
            by_cases z : P b = true
            · simp [z, this]; omega
            · simp [z]
        exact this _ fun b hb => by have := List.mem_range.mp hb; omega
      rw [e, List.range_succ, List.countP_append]
      simp [List.countP_cons]
theorem invO_sum (f : Nat → Int) (n : Nat) : invO f n = ((List.range n).map fun a => ((List.range n).map fun b => if b < a ∧ f b > f a then 1 else 0).sum).sum := by
  unfold invO
  congr 1
  refine List.map_congr_left fun a ha => ?_
  rw [count_if a _ n (by have := List.mem_range.mp ha; omega)]
  congr 1
  refine List.map_congr_left fun b _ => ?_
  congr 1
  simp
theorem invO_turn (f g : Nat → Int) (n : Nat) (h : ∀ i, i < n → g i = (n : Int) - 1 - f (n - 1 - i)) : invO g n = invO f n := by
  rw [invO_sum, invO_sum, sum_swap]
  rw [sum_rev n fun b => ((List.range n).map fun a => if b < a ∧ g b > g a then 1 else 0).sum]
  congr 1
  refine List.map_congr_left fun a ha => ?_
  have ha := List.mem_range.mp ha
  rw [sum_rev]
  congr 1
  refine List.map_congr_left fun b hb => ?_
  have hb := List.mem_range.mp hb
  rw [h _ (by omega), h _ (by omega), show n - 1 - (n - 1 - a) = a by omega, show n - 1 - (n - 1 - b) = b by omega]
  congr 1
  refine propext ?_
  omega
end
end Mx
end
section
set_option Elab.async false
set_option linter.all false
set_option maxRecDepth 100000
set_option maxHeartbeats 2000000
set_option autoImplicit false
/-! ### an own exception whose __init__(self) says super().__init__(text), no more -/
namespace SupX
open PySem PySem.W PySem.Calls PyProof.Rows PySem.HandSPX
def iA (p1 : Pos) : Arguments := { posonlyargs := [], args := [{ arg := "self", annotation := none, pos := p1 }], vararg := none, kwonlyargs := [], kw_defaults := [], kwarg := none, defaults := [] }
def iB (txt : Str) (j : Nat) (q1 q2 q3 q4 q5 q6 : Pos) : List Stmt := [.Expr (.Call (.Attribute (.Call (.Name "super" q1) [] [] q2) "__init__" q3) [.Constant (.str txt) j q4] [] q5) q6]
abbrev iS (ns : List (Str × NameKind)) : Scope := { kind := .function, names := ns, isGenerator := false, isCoroutine := false, more := [] }
/-- what the written part says of the class at C, called x, and of its __init__, at fI -/
structure SupTxt (prog : Program) (K : Frag) (mg : Str → Option Value) (x : Str) (C fI : Addr) : Prop where
  gC : mg x = some (.ref C)
  gS : mg "super" = none
  cls : ∃ nm q N bs bm sn sub ab col dd k0 k1 k2 k3 k5, K.lookup C = some (excClassObj nm q C N bs bm true sn sub ab col dd k0 k1 k2 k3 k5 "ValueError.__new__") ∧ refsVE bm = true
  iC : findIn K (.ref C) "__init__" = some (some (.ref fI))
  tC : typeIn K (.ref fI) = some (.type "function")
  kC : keepIn K (.ref C) = true
  exC : subIn K (.ref C) (.type "BaseException") = some true
  veC : subIn K (.ref C) (.type "ValueError") = some true
  tyC : typeIn K (.ref C) = some (.type "type")
  te : exmOne K (.ref C) (.ref C) = some true
  sup : ks_superIn K C C "__init__" = some (some (.builtin "ValueError.__init__"))
  mr : mroIn K C (.ref C) = some true
  opq : nsIn K cStatics "thirdparty.any" = some none
  fn : ∃ (oc : Value) (od : Option Addr) (q : Str) (ns : List (Str × NameKind)) (doc pm : Value) (an : Option Addr) (cda cc : Addr) (ct : Value) (osl : Array (Option Value)) (p1 q1 q2 q3 q4 q5 q6 : Pos) (txt : Str) (j : Nat),
    K.lookup fI = some ⟨oc, od, .func (ksFn "__init__" q (iA p1) (iB txt j q1 q2 q3 q4 q5 q6) (iS ns) .none .none doc pm an (.ref cda) ct cc), osl⟩ ∧ codeIn K (.ref cda) q = true ∧
    (∃ ccl cdd vs ccs file tf, K.lookup cda = some ⟨ccl, cdd, .fields vs, ccs⟩ ∧ vs[2]? = some (.str file tf) ∧ ((prog.main.file : Str) == file) = true) ∧
    (∃ cl cld csl, K.lookup cc = some ⟨cl, cld, .cell (some (.ref C)), csl⟩) ∧
    ns.lookup ("super" : Str) = some .globalImplicit ∧ ns.lookup ("__class__" : Str) = some .free ∧ ns.lookup ("self" : Str) = some .local ∧ (∀ x ∈ ns, x.2 ≠ .cell) ∧ (q3.endLine == q5.line) = true
  top : (prog.main.scope.names.lookup ("super" : Str)).isSome = false
section
variable {prog : Program} {w : World} {A : Around} {E : Value → Shared → Prop} {R : Result → Shared → Prop} {s : Shared} {K : Frag} {mg : Str → Option Value} {x : Str} {C fI : Addr}
theorem call_mw {h : Heap} {g : Array GenState} {d : Drawn} {t : Nat} {os : OsState} {u e t0 : Addr} {nm q : Str} {N : Addr} {bs bm : List Value} {hdct : Bool} {sn : List Str} {sub : List Value} {ab : Bool} {col : Option Bool} {dd : Option Addr} {k0 k1 k2 k3 k5 : Option Value} {rest : List Value} {Q : Value → Shared → Prop}
    (hC : h.get? C = some (excClassObj nm q C N bs bm hdct sn sub ab col dd k0 k1 k2 k3 k5 "ValueError.__new__")) (he : h.get? e = some (excO C t0)) (hu : h.get? u = some (kxs_mw "ValueError.__init__" e)) (hrest : rest.length ≤ sizeLine)
    (hq : ∀ h' t1, (∀ b o, b ≠ e → h.get? b = some o → h'.get? b = some o) → h'.get? e = some (excO C t1) → Q .none ⟨h', g, d, t, os⟩) :
    wpAny (model prog w) A (call (.ref u) rest) Q E ⟨h, g, d, t, os⟩ := by
  have FB := F.excBase_ValueError
  refine wpAny_call (codeAny_of_tree ?_)
  show wpAny _ A.in1 (callAny (.ref u) ⟨rest, []⟩) _ _ _
  simp only [callAny]
  refine wpAny_bind (wpAny_load hu ?_)
  simp only [kxs_mw, show (Value.type "method-wrapper" == Value.type "method" || Value.type "method-wrapper" == Value.type "builtin_function_or_method" || Value.type "method-wrapper" == Value.type "method-wrapper") = true by decide, if_true]
  refine KFB.if_so (by decide) ?_
  refine wpAny_bind (check_bound_init FB.toExcCallFacts hC he rfl ?_)
  refine wpAny_bind (wpAny_pure (wpAny_pure ?_))
  refine ⟨plainId_quiet FB.init.plain _, codeAny_builtin FB.initEntry ?_⟩
  exact exc_init_tree (cls := .ref C) (t0 := t0) (dv := none) (c2 := .none) (c3 := .none) (b4 := .bool false) he hrest fun h' k e' _ => hq h' _ k e'
theorem he_of {o : Expr} {name : Str} {q3 q5 : Pos} {args : List Expr} {env : Env} (hl : (q3.endLine == q5.line) = true) (hf : methodCallForm (args.length + 0) (backTo q5 (starEach args env)) [] = true) :
    eval (.Call (.Attribute o name q3) args [] q5) env = (do
      let ov ← attributeBase o name env (eval o env)
      standAt q3.atName
      let (f, first) ← holding [ov] (getMethod ov name (do return (← importBound o env).getD true))
      callWith q5 f first (backTo q5 (starEach args env)) []) := by
  show (attributeBase o name env (eval o env) >>= fun ov => standAt q3.atName >>= fun _ => methodCall o name q3 q5 env ov (args.length + 0) (backTo q5 (starEach args env)) []) = _
  congr 1
  funext ov
  congr 1
  funext _
  unfold methodCall methodCallPos calleeOf
  rw [hf, hl]
  rfl
theorem sup_init (T : SupTxt prog K mg x C fI) {e t0 : Addr} {mb : Str → Option Value} (X : K.In s.heap) (hlim : s.heap.NoLimit) (hx : s.heap.get? e = some (excO C t0)) (hroom : A.depth < recursionLimit)
    (hg : s.heap.Ns mainGlobals mg) (hb : s.heap.Ns builtinsNs mb) (hbs : mb "super" = some (.type "super"))
    (hq : ∀ h' tk t1, (∀ b o, b ≠ e → s.heap.get? b = some o → h'.get? b = some o) → h'.get? e = some (excO C t1) → R (.ok (.ret .none)) { s with heap := h', toks := tk }) :
    codeAny (model prog w) A (.call (.ref fI) ⟨[.ref e], []⟩) R s := by
  obtain ⟨oc, od, q, ns, doc, pm, an, cda, cc, ct, osl, p1, q1, q2, q3, q4, q5, q6, txt, j, ho, hcd, ⟨ccl, cdd, vs, ccs, file, tf, hcode, hvs, hfile⟩, ⟨cl, cld, csl, hcell⟩, n1, n2, n3, n7, hl⟩ := T.fn
  obtain ⟨nm, qn, N, bs, bm, sn, sub, ab, col, dd, k0, k1, k2, k3, k5, hC, hbm⟩ := T.cls
  have hcl : clsIn K C = some { name := nm, bases := bs, mro := .ref C :: bm, ns := N, qualname := qn, hasDict := true, slotNames := sn, subclasses := sub, abstract := ab, collection := col, hasDel := false } := by unfold clsIn; rw [hC] <;> rfl
  refine ks_codeAny_call_defAt (fd := ksFn "__init__" q (iA p1) (iB txt j q1 q2 q3 q4 q5 q6) (iS ns) .none .none doc pm an (.ref cda) ct cc) (body := iB txt j q1 q2 q3 q4 q5 q6) (binds := [("self", .ref e)]) hroom (X _ _ ho) rfl hlim (codeRec_of X hcd) rfl (BindsTo.of_eq rfl) n7
    (fun y hy => by
      rcases List.mem_cons.mp hy with rfl | hy
      · exact n3
      · cases hy) (fun h₁ hns k => ?_) rfl rfl rfl
  obtain ⟨hp, g, dr, tk, os⟩ := s
  have X₁ : K.In h₁ := X.keeps k
  refine ks_wpAt_execs_cons (ks_wpAt_Expr_any (ks_wpAt_MethodCall (o := .Call (.Name "super" q1) [] [] q2) (pl := do return (← importBound (.Call (.Name "super" q1) [] [] q2) (callEnv (ksFn "__init__" q (iA p1) (iB txt j q1 q2 q3 q4 q5 q6) (iS ns) .none .none doc pm an (.ref cda) ct cc) hp.objs.size fI)).getD true) ?_ (he_of hl rfl)))
  refine ks_wpAt_super_base (env := ksEnv q (iS ns) hp.objs.size fI (.ref cda) cc) n1 n2 (by decide) rfl (X₁ _ _ ho) rfl (ar := { arg := "self", annotation := none, pos := p1 }) rfl rfl (X₁ _ _ hcode) rfl hvs hfile T.top ?_
  refine ks_loadName_global rfl n1 (loadGlobal_builtin (env := ksEnv q (iS ns) hp.objs.size fI (.ref cda) cc) (hg.keeps k) T.gS (hb.keeps k) hbs ⟨rfl, ?_⟩)
  refine wpAny_loadName_free rfl n2 rfl ⟨_, X₁ _ _ hcell, rfl⟩ ?_
  refine wpAny_loadName_local rfl n3 hns (v := .ref e) (by first | rfl | with_unfolding_all rfl | kernel_rfl) ?_
  refine ks_wpAny_isType_cls (X₁ _ _ hC) rfl ⟨rfl, ?_⟩
  refine ks_wpAny_call_super (X₁ _ _ hC) rfl (k _ _ hx) rfl (fun c z => by cases z) (looks_mroIn X₁ T.mr) (fun h2 e2 k2' => ?_)
  have X₂ : K.In h2 := X₁.keeps k2'
  have hx2 := k2' _ _ (k _ _ hx)
  have I2 : InstAt h2 e (excO C t0) C none := ⟨hx2, rfl, rfl, trivial⟩
  have sp := T.sup
  unfold ks_superIn at sp
  rw [hcl] at sp
  refine kxs_getMethod kxs_ValueError e2 (looks_opaque X₂ T.opq) (l₀ := .ref C :: bm) ?_ rfl X₂ sp (I2.type.andThen (looks_subIn X₂ T.veC)) (ks_ne X₂ I2 hcl) (by decide) ?_
  · exact fun A Q E s k q => wpAny_bind ((looks_clsIn X₂ hcl) A _ E s k (wpAny_pure q))
  · have k3 : ∀ b o, h2.get? b = some o → (h2.push (kxs_mw "ValueError.__init__" e)).get? b = some o := fun b o z => Heap.get?_push_of_some _ z
    refine kxs_callWith (i := "ValueError.__init__") (x := e) rfl (evalArgs_plain (spliced_cons (Constant_str (k := j) (pos := q4) (spliced_nil ⟨Heap.get?_push_at rfl rfl, ?_⟩))))
    refine call_mw (k3 _ _ (X₂ _ _ hC)) (k3 _ _ hx2) (Heap.get?_push_at rfl rfl) (by show 1 ≤ sizeLine; rw [sizeLine_eq]; decide) fun h' t1 kk e' => ?_
    exact wpAt_of_wpAny (wpAny_execs_nil (hq h' _ t1 (fun b o hb z => kk b o hb (k3 _ _ (k2' _ _ (k _ _ z)))) e'))
end
end SupX
namespace Ly
open PySem L2
section
variable {X : Cx} {x : Str} {C fI : Addr} {p pos : Pos} {k : Nat}
theorem boot_super : bootBuiltins "super" = some (.type "super") := by first | rfl | kernel_rfl
/-- C(), C's own __init__(self) saying super().__init__(text), no more -/
theorem pmk_sup (T : SupX.SupTxt X.prog X.K X.mg x C fI) (hr : Room k X.A) (hg : Gl X x) (hdb : (x == ("__debug__" : Str)) = false := by decide) : PMk X (.Call (.Name x p) [] [] pos) (fun _ H Q => Q (.ref C) none H) := by
  intro pins s σ H Q I h
  obtain ⟨nm, q, N, bs, bm, sn, sub, ab, col, dd, k0, k1, k2, k3, k5, hC, hbm⟩ := T.cls
  refine wpAny_Call_Name_kw (ld_glob I hg T.gC ?_ hdb)
  refine PySem.W.callWith_K0 I.kIn T.kC ?_
  show wpAny _ _ (call (.ref C) []) _ _ _
  obtain ⟨mb, b1, b2⟩ := I.mod.blt
  have hlim := I.nolimit
  have glob := I.mod.glob.keeps I.bk
  have blt := b1.keeps I.bk
  have kin := I.kIn
  have bare := I.bare
  have fresh : H (s.heap.objs.size + 1) = none := I.hok.fresh (Nat.le_succ _)
  obtain ⟨hp, g, dr, tk, os⟩ := s
  have kk : ∀ b o, hp.get? b = some o → ((hp.push (PySem.W.kdv_tup [])).push (PySem.HandSPX.excO C hp.objs.size)).get? b = some o := fun b o e => Heap.get?_push_of_some _ (Heap.get?_push_of_some _ e)
  have hget : ((hp.push (PySem.W.kdv_tup [])).push (PySem.HandSPX.excO C hp.objs.size)).get? (hp.objs.size + 1) = some (PySem.HandSPX.excO C hp.objs.size) := by heap_get
  refine wpAny_call (PySem.HandSPX.call_own F.excBase_ValueError (fun Y => PySem.HandSPX.refsVE_contains Y bm hbm) (kin _ _ hC) (PySem.W.looks_findIn kin T.iC) (fun self => PySem.W.bind_fn kin self T.tC) (Nat.zero_le _) ?_)
  refine SupX.sup_init (s := ⟨(hp.push (PySem.W.kdv_tup [])).push (PySem.HandSPX.excO C hp.objs.size), g, dr, tk, os⟩) T (kin.keeps kk) (hlim.keeps kk) hget ?_ (glob.keeps kk) (blt.keeps kk) ((b2 _ (by decide)).trans boot_super) fun h' tk' t1 ke e' => ?_
  · show X.A.depth + 1 < recursionLimit
    have := hr.dp
    omega
  · refine ⟨rfl, ?_⟩
    show MkP X pins σ Q (.ref (hp.objs.size + 1)) ⟨h', g, dr, tk', os⟩
    refine ⟨_, _, _, ⟨hp, g, dr, tk, os⟩, H, .ref C, none, rfl, I, fun b o z => ke b o (Nat.ne_of_lt (Nat.lt_succ_of_lt (Heap.lt_size z))) (kk b o z), ?_, e', ⟨rfl, rfl⟩, rfl, rfl, fresh, rfl, bare, raises_own T.exC T.tyC, h⟩
    cases z : hp.get? (hp.objs.size + 1) with
    | none => rfl
    | some o => exact absurd (Nat.lt_of_succ_lt (Heap.lt_size z)) (Nat.lt_irrefl _)
/-- raise C() -/
theorem ps_raiseSup {W : WX} {pos2 : Pos} (hc : X.calm = true) (T : SupX.SupTxt X.prog X.K X.mg x C fI) (hr : Room k X.A) (tk : Takes X W) (hg : Gl X x) (hdb : (x == ("__debug__" : Str)) = false := by decide) :
    PS X (.Raise (some (.Call (.Name x p) [] [] pos)) none pos2) (fun _ σ H => W (.ref C) none σ H) := ps_raise hc tk (pmk_sup T hr hg hdb)
end
end Ly
end
section
set_option Elab.async false
set_option linter.all false
set_option maxRecDepth 100000
set_option maxHeartbeats 2000000
set_option autoImplicit false
namespace Ly
open PySem L2 LamX
/-! ### all but the tables of code objects stays -/
section
variable {K : PySem.W.Frag} {M : Addr → Prop} {H H' : Hp}
theorem ExtN.gm (e : ExtN H H') : Gm (fun b => ∃ ps, H b = some (.tbl ps)) H H' := fun b o h m => e b o h fun ps z => by
  subst z
  exact m ⟨ps, h⟩
mutual
theorem Is.extN (e : ExtN H H') : ∀ {d : Dt} {v : V}, Is K M H d v → Is K M H' d v
  | _, _, .non => .non
  | _, _, .bl b => .bl b
  | _, _, .int i => .int i
  | _, _, .str x => .str x
  | _, _, .ty n => .ty n
  | _, _, .tup h l => .tup (sqt_gm (ExtN.gm e) h) (IsL.extN e l)
  | _, _, .lst h n l => .lst (e _ _ h fun ps z => by cases z) n (IsL.extN e l)
  | _, _, .ins h l => .ins (e _ _ h fun ps z => by cases z) (IsF.extN e l)
  | _, _, .dct h n l => .dct (e _ _ h fun ps z => by cases z) n (IsK.extN e l)
  | _, _, .raw v => .raw v
theorem IsL.extN (e : ExtN H H') : ∀ {ds : List Dt} {vs : List V}, IsL K M H ds vs → IsL K M H' ds vs
  | _, _, .nil => .nil
  | _, _, .cons h l => .cons (Is.extN e h) (IsL.extN e l)
theorem IsF.extN (e : ExtN H H') : ∀ {ds : List (Str × Dt)} {vs : List (Str × V)}, IsF K M H ds vs → IsF K M H' ds vs
  | _, _, .nil => .nil
  | _, _, .cons h l => .cons (Is.extN e h) (IsF.extN e l)
theorem IsK.extN (e : ExtN H H') : ∀ {ds : List (Key × Dt)} {vs : List (Key × V)}, IsK K M H ds vs → IsK K M H' ds vs
  | _, _, .nil => .nil
  | _, _, .cons h l => .cons (Is.extN e h) (IsK.extN e l)
end
/-- the zone's own part is no table -/
theorem srcN {A C : Addr} (e : ExtN H H') (h : Src A C H) : Src A C H' := by
  obtain ⟨n, cells, l, m, t, h1, h2⟩ := h
  exact ⟨n, cells, l, m, t, e _ _ h1 (fun ps z => by cases z), e _ _ h2 (fun ps z => by cases z)⟩
/-- behind the making of a lambda: looked at from here -/
theorem At.extN {Z : Zn} {H0 : Hp} {L : Own} {Γ : Gam} {σ : L2.St} (a : At K Z H0 L Γ σ H) (e : ExtN H H') (j : Z.J H') : At K Z H' L Γ σ H' :=
  ⟨Gm.refl _, j, fun p hp => by
    obtain ⟨xs, h, l, n⟩ := a.own p hp
    exact ⟨xs, e _ _ h (fun ps z => by cases z), IsL.extN e l, n⟩, a.nd, a.len, fun i d h => by
    obtain ⟨v, h1, h2⟩ := a.env i d h
    exact ⟨v, h1, Is.extN e h2⟩⟩
/-- the tables stay where nothing but the zone changes -/
theorem Tabs.gm {T : List (Addr × Str)} (t : Tabs T H) (e : Gm M H H') (hm : ∀ b o, H b = some o → M b → (∃ vs, o = .lst vs) ∨ ∃ kvs, o = .dK kvs) : Tabs T H' := fun p hp => by
  obtain ⟨ps, h1, h2, h3⟩ := t p hp
  refine ⟨ps, e _ _ h1 fun m => ?_, h2, fun pos cv hc => ?_⟩
  · rcases hm _ _ h1 m with ⟨vs, z⟩ | ⟨kvs, z⟩ <;> cases z
  · obtain ⟨c, e1, e2⟩ := h3 pos cv hc
    refine ⟨c, e1, e _ _ e2 fun m => ?_⟩
    rcases hm _ _ e2 m with ⟨vs, z⟩ | ⟨kvs, z⟩
    · unfold CodeO at z; cases z
    · unfold CodeO at z; cases z
end
/-! ### defs that raise -/
structure ClX (P : Program) (w : World) (K : PySem.W.Frag) (mg : Str → Option Value) (base : Heap) (k : Nat) (x : Str) (sp : Sp) : Prop where
  ex : ∃ (f : Addr) (fd : FuncData) (ps : List Str), FnOk P w K mg base (L2.CX P w) k f fd ps sp ∧ mg x = some (.ref f) ∧ PySem.W.keepIn K (.ref f) = true ∧ Binds K fd ps []
/-- with such arguments: an error of the class at C, all else as it was -/
def spR (K : PySem.W.Frag) (C : Addr) {α : Type} (args : α → List Dt) (pre : α → Prop) : Sp := fun vs H _ E => ∃ a : α, pre a ∧ IsL K (fun _ => False) H (args a) vs ∧ ∀ H', Ex H H' → E (.ref C) none H'
theorem spR_len {K : PySem.W.Frag} {C : Addr} {α : Type} {args : α → List Dt} {pre : α → Prop} {n : Nat} {vs : List V} {H : Hp} {Q : VK} {E : XK} (h : spR K C args pre vs H Q E) (hn : ∀ a, (args a).length = n) : vs.length = n := by
  obtain ⟨a, _, i, _⟩ := h
  rw [← i.length, hn]
section
variable {X : Cx} {k j : Nat} {x : Str} {sp : Sp} {t : TA} {e : Expr} {es : List Expr} {p pos : Pos} {W : WX}
theorem pe_clX (c : ClX X.prog X.w X.K X.mg X.base k x sp) (hr : Room j X.A) (hk : k ≤ j) (tk : Takes X W) (hg : Gl X x) (ha : PA X (e :: es) t)
    (hdb : (x == ("__debug__" : Str)) = false := by decide) (he : starEach (e :: es) X.env = (false, eval e X.env) :: starEach es X.env := by rfl) (hpl : (backTo pos (starEach es X.env)).any (·.1) = false := by rfl) :
    PE X (.Call (.Name x p) (e :: es) [] pos) (tCallS sp (WE W) t) := by
  obtain ⟨f, fd, ps, F, g, kp, b⟩ := c.ex
  exact pe_callS F (hr.mono hk) hg g kp b (fun σ => passAt tk σ) ha hdb he hpl
end
section
variable {K : PySem.W.Frag} {Z : Zn} {H0 : Hp} {L : Own} {Γ : Gam} {σ : L2.St} {H : Hp} {C : Addr} {α : Type} {args : α → List Dt} {pre : α → Prop} {t : TA} {W : WX} {D : Ends} {tz : TS}
theorem q_raiseC (a : At K z0 H0 [] Γ σ H) (x : α) (h : EVA K z0 H0 [] Γ (wW z0) t (Eq (args x))) (hp : pre x) (k : ∀ H', Ex H0 H' → W (.ref C) none σ H') : tSeq (tDrop (tCallS (spR K C args pre) (WE W) t)) tz D σ H := by
  refine h σ H a _ fun ds vs H1 p g j i => ?_
  subst p
  refine ⟨x, hp, i.weak fun _ q => q.elim, fun H' e => k H' ?_⟩
  exact ((a.step g j).ex0 fun _ q => nomatch q).trans e
end
/-! ### a lambda handed to a def that tells whether its call is refused -/
def TUnl (K : PySem.W.Frag) (CS : Addr) : (XK → Hp → VK → Prop) → Hp → VK → Prop := fun tl H Q =>
  tl (fun cls _ H' => ∃ b, PySem.W.exmOne K cls (.ref CS) = some b ∧ (b = true → Q (.bl true) H') ∧ (b = false → False)) H (fun _ H' => Q (.bl false) H')
theorem unl_gives {X : Cx} {Ng : List Str} {x a e q : Str} {sg : Scope} {g CS : Addr} {cdg : Value} {j j2 : Nat} {p1 p2 p3 p4 p5 p6 p7 p8 p9 p10 : Pos} (hge : sg.names.lookup e = some .globalImplicit) (hme : X.mg e = some (.ref CS)) (hde : (e == ("__debug__" : Str)) = false) (h0 : ∀ f : Addr, (L2.start Ng [V.ref f])[0]? = some (some (V.ref f))) :
    GivesTo X Ng x sg g cdg [.Try [.Expr (.Call (.Name a p1) [] [] p2) p3] [.ExceptHandler (some (.Name e p4)) none [.Return (some (.Constant (.bool true) j p5)) p6] p7] [] [] p8, .Return (some (.Constant (.bool false) j2 p9)) p10] a q (TUnl X.K CS) := by
  intro f c' s H Q tl act hc h
  have hgl : Gl (cxOf C8.CX0 X.prog X.w X.K X.mg X.base Ng x sg g cdg X.A X.stack s H C8.E0).nox e := hge
  refine ⟨_, pss_cons (ps_try_only (X := (cxOf C8.CX0 X.prog X.w X.K X.mg X.base Ng x sg g cdg X.A X.stack s H C8.E0).nox) (c := .ref CS)
      (tb := fun W D σ H => ∃ Ech : XK, (∀ cls d σ' H', Ech cls d H' → W cls d σ' H') ∧ σ[0]? = some (some (.ref f)) ∧ H c' = some (CodeO c' q) ∧ tl Ech H fun _ H' => D.nx σ H')
      rfl rfl ⟨hgl, hde, .inl hme⟩ takes0 (fun W pn xe tk _ => ?_) (fun a oe cls d pn _ _ => pss_one (ps_ret pe_bl))) (pss_one (ps_ret pe_bl)), ?_⟩
  · refine ⟨fun pins s' σ H' D I h' => ?_⟩
    obtain ⟨Ech, hW, h1, h2, h3⟩ := h'
    have hp := act W pn xe Ech p1 p2 tk hW
    have hq := pss_one (ps_expr (pos := p3) hp)
    exact hq.run pins s' σ H' D I ⟨h1, h2, h3⟩
  · exact ⟨fun cls _ H' => ∃ b, PySem.W.exmOne X.K cls (.ref CS) = some b ∧ (b = true → Q (.bl true) H') ∧ (b = false → False), fun cls d σ' H' ⟨b, e1, e2, e3⟩ => ⟨b, e1, fun hb a _ => e2 hb, fun hb => e3 hb⟩, h0 f, hc, h⟩
end Ly
end
section
set_option Elab.async false
set_option linter.all false
set_option maxRecDepth 100000
set_option maxHeartbeats 2000000
set_option autoImplicit false
namespace Ly
open PySem L2
section
variable {X : Cx} {K : PySem.W.Frag}
/-- repr of data, where no repr is under way -/
def rReprD (K : PySem.W.Frag) : List V → Hp → VK → Prop := fun xs H Q => ∃ (a : Addr) (d : PyData), xs = [.ref a] ∧ Dp K H (.ref a) d ∧ d.showable = true ∧ d.hasDict = false ∧ d.depth ≤ 64 ∧ d.shown.length ≤ sizeLine ∧ Q (.str d.shown) H
theorem x_reprD (hg : X.A.guards = some []) (hu : X.A.units + 100 < cLine) (e : X.K = K := by rfl) : CallR X (.builtin "repr") (rReprD K) := by
  subst e
  intro pins s σ H vs us Q I r h
  obtain ⟨a, d, rfl, dp, h1, h2, h3, h4, q⟩ := h
  rw [Vals.ref1 r]
  obtain ⟨as, rd⟩ := Dp.reads I d (.ref a) (.ref a) dp rfl
  exact repr_of_reads' rd h1 (fun z => by rw [h2] at z; cases z) hg (by omega) (fun b o e => e) (fun h' u tk hk => ⟨.str _, H, I.kept hk, ⟨_, rfl⟩, q⟩) h4
/-- sum of a tuple of ints -/
def rSumT (K : PySem.W.Frag) : List V → Hp → VK → Prop := fun vs H Q => ∃ (a : Addr) (ns : List Int), vs = [V.ref a] ∧ SqT K H a (ns.map V.int) ∧ Q (.int ns.sum) H
theorem x_sumT (hc : X.calm = true := by rfl) (e : X.K = K := by rfl) : CallR X (.builtin "sum") (rSumT K) := by
  subst e
  intro pins s σ H vs us Q I r h
  obtain ⟨a, ns, rfl, hs, q⟩ := h
  obtain ⟨its, rv, hl, _⟩ := I.tuple hs
  rw [Vals.ref1 r]
  have hi := rv.ints
  obtain ⟨xs, e⟩ := hi.allInts.items
  have hn : numsOf (intItems xs).toList = ns := by rw [← e]; exact hi.numsOf
  rw [nums_intItems] at hn
  rw [e] at hl
  refine PySem.W.ktm_sumG (I.ok.hd hc) hl fun h' tk t' hk => ?_
  rw [preSum_eq, List.take_of_length_le (by simp), hn]
  exact ⟨.int _, H, I.kept hk, ⟨_, rfl⟩, q⟩
/-- min of a tuple of ints -/
def rMinT (K : PySem.W.Frag) : List V → Hp → VK → Prop := fun vs H Q => ∃ (a : Addr) (n : Int) (ns : List Int), vs = [V.ref a] ∧ SqT K H a ((n :: ns).map V.int) ∧ ∀ m, m ∈ n :: ns → Q (.int m) H
theorem dpAll_ints (K : PySem.W.Frag) (H : Hp) : ∀ ns : List Int, DpAll K H (ns.map V.int) (ns.map PySem.W.Datum.toD)
  | [] => .nil
  | n :: ns => .cons (.int n) (dpAll_ints K H ns)
theorem reads_int {h : Heap} {v : Value} {i : Int} {as : List Addr} (r : Reads h v (.int i) as) : ∃ t, v = .int i t := by
  cases r
  exact ⟨_, rfl⟩
theorem minOf_mem (n : Int) : ∀ ns : List Int, PySem.W.minOf n ns ∈ n :: ns := by
  have key : ∀ (ns : List Int) (m : Int), m ∈ n :: ns ∨ True → ∀ x, (ns.foldl (fun a y => if PySem.W.DatumOrd.lt y a = true then y else a) x) ∈ x :: ns := by
    intro ns
    induction ns with
    | nil => intro m _ x; exact List.mem_singleton.mpr rfl
    | cons y ns ih =>
      intro m hm x
      rw [List.foldl_cons]
      split
      · exact List.mem_cons_of_mem _ (ih m (.inr trivial) y)
      · rcases List.mem_cons.mp (ih m (.inr trivial) x) with z | z
        · exact List.mem_cons.mpr (.inl z)
        · exact List.mem_cons_of_mem _ (List.mem_cons_of_mem _ z)
  exact fun ns => key ns n (.inr trivial) n
theorem x_minT (hu : X.A.units + 100 < cLine) (hc : X.calm = true := by rfl) (e : X.K = K := by rfl) : CallR X (.builtin "min") (rMinT K) := by
  subst e
  intro pins s σ H vs us Q I r h
  obtain ⟨a, n, ns, rfl, hs, q⟩ := h
  obtain ⟨its, rv, hl, _⟩ := I.tuple hs
  rw [Vals.ref1 r]
  have dp : DpAll X.K H ((n :: ns).map V.int) ((n :: ns).map PySem.W.Datum.toD) := dpAll_ints X.K H (n :: ns)
  obtain ⟨as, rd⟩ := Dp.readsAll I _ _ _ dp rv
  refine PySem.W.min_tuple_datum (I.ok.hd hc) hl ⟨as, rd⟩ (by show X.A.units + 1 + 0 < cLine; omega) fun i v h' tk hi hv hk => ?_
  obtain ⟨bs, rv2⟩ := hv
  obtain ⟨t, rfl⟩ : ∃ t, v = .int (PySem.W.minOf n ns) t := reads_int rv2
  exact ⟨.int _, H, I.kept hk, ⟨_, rfl⟩, q _ (minOf_mem n ns)⟩
end
/-! ### what these make of data -/
section
variable {K : PySem.W.Frag} {Z : Zn} {H0 : Hp} {L : Own} {Γ : Gam} {W : Hp → Addr → Prop}
theorem rc_reprD {d : Dt} {ds : List Dt} (e : d = .tup ds) (ho : d.ok = true) (h1 : d.pd.showable = true) (h2 : d.pd.hasDict = false) (h3 : d.pd.depth ≤ 64) (h4 : d.pd.shown.length ≤ sizeLine) : RC K (rReprD K) [d] (Eq (.str d.pd.shown)) := fun M H vs h Q k => by
  cases h with
  | cons x l =>
    cases l
    have dp := x.dp ho
    subst e
    cases x with
    | tup hq l => exact ⟨_, _, rfl, dp, h1, h2, h3, h4, k _ _ H rfl (Ex.refl H) (.str _)⟩
theorem rc_sumT {ns : List Int} : RC K (rSumT K) [.tup (ns.map .int)] (Eq (.int ns.sum)) := fun M H vs h Q k => by
  cases h with
  | cons x l =>
    cases l
    cases x with
    | tup hq l =>
      rename_i a xs
      have e : xs = ns.map V.int := IsL.ints l
      subst e
      exact ⟨_, ns, rfl, hq, k _ _ H rfl (Ex.refl H) (.int _)⟩
theorem rc_minT {n : Int} {ns : List Int} : RC K (rMinT K) [.tup ((n :: ns).map .int)] (fun d => ∃ m, d = .int m ∧ m ∈ n :: ns) := fun M H vs h Q k => by
  cases h with
  | cons x l =>
    cases l
    cases x with
    | tup hq l =>
      rename_i a xs
      have e : xs = (n :: ns).map V.int := IsL.ints l
      subst e
      exact ⟨_, n, ns, rfl, hq, fun m hm => k _ _ H ⟨m, rfl, hm⟩ (Ex.refl H) (.int _)⟩
theorem rc_minL {ns : List Int} (hne : 0 < ns.length) : RC K (rMin K) [.lst (ns.map .int)] (fun d => ∃ m, d = .int m ∧ m ∈ ns) := fun M H vs h Q k => by
  cases h with
  | cons x l =>
    cases l
    cases x with
    | lst hq n l =>
      rename_i a xs
      have e : xs = ns.map V.int := IsL.ints l
      subst e
      exact ⟨_, ns, rfl, SqL.of hq, hne, fun m hm _ => k _ _ H ⟨m, rfl, hm⟩ (Ex.refl H) (.int _)⟩
/-- {2: 3}.get(x, 2) -/
theorem ev_get23 [w : Wd K Z L W] {ti tv ty tx : TE} {p : Int} (h1 : EV K Z H0 L Γ wF ti (Eq (.int 2))) (h2 : EV K Z H0 L Γ wF tv (Eq (.int 3))) (h3 : EV K Z H0 L Γ wF ty (Eq (.int p))) (h4 : EV K Z H0 L Γ wF tx (Eq (.int 2))) :
    EV K Z H0 L Γ W (tDGet2 (tDisp [(ti, tv)]) ty tx) (Eq (.int (if p = 2 then 3 else 2))) := fun σ H a Q k c hc => by
  obtain ⟨g1, j1⟩ := a.ex (Ex.new (o := .dK []) hc)
  have a1 := a.step g1 j1
  have nZ : ¬ Z.M c := fun m => a.ne (mt_z m) hc
  refine h1 σ _ a1 _ fun d1 v1 H1 p1 g2 j2 i1 => ?_
  subst p1
  cases i1
  have a2 := a1.step g2 j2
  refine h2 σ _ a2 _ fun d2 v2 H2 p2 g3 j3 i2 => ?_
  subst p2
  cases i2
  have e2 : H2 c = some (.dK []) := (g2.trans g3) c _ upd_same fun m => absurd m nZ
  refine ⟨e2, [(.inl 2, .int 3)], rfl, by show 1 ≤ _; decide, ?_⟩
  have g4 : Gm Z.M H (upd H2 c (.dK (mergeK [] [(.inl 2, .int 3)]))) := fun b o e m => by
    have q : b ≠ c := ne_of_none e hc
    rw [upd_ne q]
    exact ((g1.trans g2).trans g3) b o e m
  have j4 : Z.J (upd H2 c (.dK (mergeK [] [(.inl 2, .int 3)]))) := Z.loc H2 _ j3 fun b m => upd_ne fun q => nZ (q ▸ m)
  have a4 := a.step g4 j4
  refine ⟨c, rfl, .inl ⟨_, .inl upd_same⟩, ?_⟩
  refine h3 σ _ a4 _ fun d5 v5 H5 p5 g5 j5 i5 => ?_
  subst p5
  cases i5
  refine h4 σ _ (a4.step g5 j5) _ fun d6 v6 H6 p6 g6 j6 i6 => ?_
  subst p6
  cases i6
  have e6 : H6 c = some (.dK [(.inl 2, .int 3)]) := (g5.trans g6) c _ upd_same fun m => absurd m nZ
  refine ⟨valV [((Sum.inl 2 : Key), V.int 3)] (Sum.inl p), DGet.k (k := (Sum.inl p : Key)) e6, ?_⟩
  have ev : (valV [((Sum.inl 2 : Key), V.int 3)] (Sum.inl p)).getD (.int 2) = .int (if p = 2 then 3 else 2) := by
    by_cases q : p = 2
    · subst q
      rfl
    · rw [if_neg q]
      have : valV [((Sum.inl 2 : Key), V.int 3)] (Sum.inl p) = none := by
        unfold valV
        simp [q, Ne.symm q]
      rw [this]
      rfl
  rw [ev]
  exact k _ _ H6 rfl ((g4.trans g5).trans g6) j6 (.int _)
end
end Ly
end
section
set_option Elab.async false
set_option linter.all false
set_option maxRecDepth 100000
set_option maxHeartbeats 4000000
set_option autoImplicit false
namespace Wk
open PySem L2 Ly Mx
def top (i : Nat) : Stmt := PySem.Challenge.pw_codenests_k75_cross_tables.main.body.getD i (.Pass ⟨0, 0, 0, 0⟩)
structure Ads where
  (Ground Nest Part NestError NameMissing UnlikeGrounds BadGround BadCode BadNest BadPart NoLevel : Addr)
structure Txt (K : PySem.W.Frag) (mg : Str → Option Value) (G : Ads) : Prop where
  f_LookupError : mg "LookupError" = none
  f_ValueError : mg "ValueError" = none
  f_abs : mg "abs" = none
  f_all : mg "all" = none
  f_any : mg "any" = none
  f_bool : mg "bool" = none
  f_enumerate : mg "enumerate" = none
  f_int : mg "int" = none
  f_isinstance : mg "isinstance" = none
  f_len : mg "len" = none
  f_list : mg "list" = none
  f_max : mg "max" = none
  f_min : mg "min" = none
  f_range : mg "range" = none
  f_repr : mg "repr" = none
  f_sorted : mg "sorted" = none
  f_sum : mg "sum" = none
  f_super : mg "super" = none
  f_tuple : mg "tuple" = none
  f_zip : mg "zip" = none
  g_Ground : mg "Ground" = some (.ref G.Ground)
  k_Ground : Cls K G.Ground
  i_Ground : Isa K G.Ground
  n_Ground_length : NoAttr K G.Ground "length"
  n_Ground_prime : NoAttr K G.Ground "prime"
  g_Nest : mg "Nest" = some (.ref G.Nest)
  k_Nest : Cls K G.Nest
  i_Nest : Isa K G.Nest
  n_Nest_own_codes : NoAttr K G.Nest "own_codes"
  n_Nest_own_ground : NoAttr K G.Nest "own_ground"
  g_Part : mg "Part" = some (.ref G.Part)
  k_Part : Cls K G.Part
  i_Part : Isa K G.Part
  n_Part_own_codes : NoAttr K G.Part "own_codes"
  n_Part_own_ground : NoAttr K G.Part "own_ground"
  g_NestError : mg "NestError" = some (.ref G.NestError)
  g_NameMissing : mg "NameMissing" = some (.ref G.NameMissing)
  g_UnlikeGrounds : mg "UnlikeGrounds" = some (.ref G.UnlikeGrounds)
  g_BadGround : mg "BadGround" = some (.ref G.BadGround)
  g_BadCode : mg "BadCode" = some (.ref G.BadCode)
  g_BadNest : mg "BadNest" = some (.ref G.BadNest)
  g_BadPart : mg "BadPart" = some (.ref G.BadPart)
  g_NoLevel : mg "NoLevel" = some (.ref G.NoLevel)
abbrev gr (G : Ads) (p n : Nat) : Dt := .ins G.Ground [("prime", .int p), ("length", .int n)]
/-! ### is_number, is_prime -/
def isNum : Dt → Bool
  | .int i => decide (0 ≤ i)
  | _ => false
def sp_is_number (K : PySem.W.Frag) (_ : Ads) : Sp := spP K (α := Dt) (fun d => [d]) (fun d => d.cls.isSome = true) (fun d r => .bl (isNum d) = r)
def sp_is_prime (K : PySem.W.Frag) (_ : Ads) : Sp := spP K (α := Nat) (fun v => [.int v]) (fun v => 2 ≤ v ∧ v < 1000 ∧ noDiv v 2) (fun _ r => .bl true = r)
section
variable {P : Program} {w : World} {K : PySem.W.Frag} {mg : Str → Option Value} {base : Heap} {G : Ads} {f : Addr} {fd : FuncData}
theorem sc_is_number : FnScope ["value"] ["value"] (defScope (top 10)) := ⟨rfl, rfl, rfl, by decide +kernel, rfl, by decide +kernel, by decide +kernel⟩
theorem ok_is_number (F : Df K "is_number" "is_number" (top 10) f fd) (T : Txt K mg G)  : FnOk P w K mg base CX0 1 f fd ["value"] (sp_is_number K G) := by
  have sc := sc_is_number
  refine F.ok sc (fun vs H Q E h => spP_len h fun _ => rfl) (fun cdv A outer s H vs Q E hr h => ?_)
  refine ⟨_, PSs.nox (pss_cons (ps_ret (pe_and (pe_callB (x_isi (K := K)) (by rfl) T.f_isinstance (by decide +kernel) (pa_cons (pv 0) (pa_cons (pe_bltn (v := .ty "int") (by rfl) T.f_int (by decide +kernel) rfl) pa_nil))) (pe_and (pe_not (pe_callB (x_isi (K := K)) (by rfl) T.f_isinstance (by decide +kernel) (pa_cons (pv 0) (pa_cons (pe_bltn (v := .ty "bool") (by rfl) T.f_bool (by decide +kernel) rfl) pa_nil)))) (pe_one (pe_cmpR op_ge (pv 0) pe_int (nomark _)))))) pss_nil), ?_⟩
  obtain ⟨d, pre, hargs, k⟩ := h
  have st : At K z0 H [] [some d] (L2.start ["value"] vs) H := at_beg hargs rfl rfl
  obtain ⟨c, hc⟩ := Option.isSome_iff_exists.mp pre
  refine q_ret1 (P := Eq (.bl (isNum d))) st ?_ k
  have e1 : ∀ {W : Hp → Addr → Prop} [Wd K z0 [] W] {b : Bool} {n : String}, kitB c n = some b → EV K z0 H [] [some d] W (tCB (rIsi K) (tCons (tVar 0) (tCons (tC (.ty n)) tNil))) (Eq (.bl b)) := fun hb =>
    ev_cb (ea_cons (ev_varW rfl) (ea_cons ev_ty ea_nil)) (rc_isi hc hb)
  cases d with
  | int i =>
    cases hc
    refine EV.eq (ev_andV (W1 := wF) (W2 := wF) (b := true) (c := decide (i ≥ 0)) (e1 (by decide +kernel)) fun _ => ev_andV (W1 := wF) (W2 := wF) (b := true) (ev_notV (W1 := wF) (b := false) (e1 (W := wF) (by decide +kernel))) fun _ => ev_op (W := wF) (ev_varW rfl) ev_int rr_ge) ?_
    rfl
  | bl b =>
    cases hc
    refine EV.eq (ev_andV (W1 := wF) (W2 := wF) (b := true) (c := false) (e1 (by decide +kernel)) fun _ => EV.eq (ev_andV (W := wF) (W1 := wF) (W2 := wF) (b := false) (c := false) (ev_notV (W1 := wF) (b := true) (e1 (W := wF) (by decide +kernel))) fun z => nomatch z) rfl) rfl
  | non => cases hc; exact EV.eq (ev_andV (W1 := wF) (W2 := wF) (b := false) (c := false) (e1 (W := wF) (by decide +kernel)) fun z => nomatch z) rfl
  | str x => cases hc; exact EV.eq (ev_andV (W1 := wF) (W2 := wF) (b := false) (c := false) (e1 (W := wF) (by decide +kernel)) fun z => nomatch z) rfl
  | tup x => cases hc; exact EV.eq (ev_andV (W1 := wF) (W2 := wF) (b := false) (c := false) (e1 (W := wF) (by decide +kernel)) fun z => nomatch z) rfl
  | lst x => cases hc; exact EV.eq (ev_andV (W1 := wF) (W2 := wF) (b := false) (c := false) (e1 (W := wF) (by decide +kernel)) fun z => nomatch z) rfl
  | dct x => cases hc; exact EV.eq (ev_andV (W1 := wF) (W2 := wF) (b := false) (c := false) (e1 (W := wF) (by decide +kernel)) fun z => nomatch z) rfl
  | ty n => cases hc
  | ins C fs => cases hc
  | raw v => cases hc
theorem ev_isnum {Z : Zn} {H0 : Hp} {L : Own} {Γ : Gam} {W : Hp → Addr → Prop} [Wd K Z L W] {E : XK} {t : TA} {d : Dt} (h : EVA K Z H0 L Γ (wW Z) t (Eq [d])) (hc : d.cls.isSome = true := by rfl) : EV K Z H0 L Γ W (tCall (sp_is_number K G) [] E t) (Eq (.bl (isNum d))) := ev_call (x := d) h hc
theorem sc_is_prime : FnScope ["value", "factor"] ["value"] (defScope (top 12)) := ⟨rfl, rfl, rfl, by decide +kernel, rfl, by decide +kernel, by decide +kernel⟩
theorem ok_is_prime (F : Df K "is_prime" "is_prime" (top 12) f fd) (T : Txt K mg G) (c_is_number : Cl P w K mg base 1 "is_number" (sp_is_number K G)) : FnOk P w K mg base CX0 2 f fd ["value"] (sp_is_prime K G) := by
  have sc := sc_is_prime
  refine F.ok sc (fun vs H Q E h => spP_len h fun _ => rfl) (fun cdv A outer s H vs Q E hr h => ?_)
  refine ⟨_, PSs.nox (pss_cons (ps_if (PW.pt (pw_or (pt_not (pt_val (pe_cl c_is_number hr (by decide) (by rfl) (pa_cons (pv 0) pa_nil)))) (pw_or1 (pt_cmpR op_lt (pv 0) pe_int (nomark _))))) (pss_cons (ps_ret pe_bl) pss_nil) pss_nil) (pss_cons (ps_set (i := 1) sc.nd rfl (Or.inl rfl) pe_int) (pss_cons (ps_while PassesOwn.never (pt_cmpR op_le (pe_op (x_mulV (K := K)) (pv 1) (pv 1)) (pv 0) (nomark _)) (pss_cons (ps_if (pt_cmpR (x_eq (K := K) hr.units) (pe_op op_mod (pv 0) (pv 1)) pe_int (nomark _)) (pss_cons (ps_ret pe_bl) pss_nil) pss_nil) (pss_cons (ps_aug (i := 1) sc.nd rfl (Or.inl rfl) pe_int ip_add) pss_nil))) (pss_cons (ps_ret pe_bl) pss_nil)))), ?_⟩
  obtain ⟨v, ⟨v2, v3, nd⟩, hargs, k⟩ := h
  have st : At K z0 H [] [some (.int v), none] (L2.start ["value", "factor"] vs) H := at_beg hargs rfl rfl
  refine q_if st (EVT.eq (b := false) (et_or (b := false) (c := false) (EVT.eq (et_not (et_test (W := wF) (ev_isnum (d := .int v) (ea_cons (ev_varW rfl) ea_nil)))) (by simp [isNum])) fun _ => EVT.eq (et_B (W := wF) (ev_op (ev_varW rfl) ev_int rr_lt)) (by simp; omega)) rfl) (fun z => nomatch z) fun _ H1 s1 => ?_
  refine q_next (q_asg s1 ev_int fun d pd σ2 H2 s2 => ?_)
  subst pd
  refine q_while (β := Unit) (I := fun m _ => m + 1 ≤ v) (Lf := fun _ _ => []) (Γf := fun m _ => [some (.int (v : Nat)), some (.int ((v + 1 - m : Nat) : Int))]) (B := fun m _ r => decide ((v + 1 - m) * (v + 1 - m) ≤ v) = r) (m0 := v - 1) (b0 := ()) s2 (fun _ _ => rfl) (by omega) rfl ?_ ?_ ?_ ?_
  · have e : ((v + 1 - (v - 1) : Nat) : Int) = 2 := by omega
    rw [e]
    exact .keep (.keep .nil)
  · intro m b i H3 g3
    refine EVT.eq (et_B (W := wF) (ev_op (ev_op (ev_varW rfl) (ev_varW rfl) (rr_mulV (small_mul (by omega) (by omega)))) (ev_varW rfl) rr_le)) ?_
    rw [← Int.natCast_mul]
    exact decide_eq_decide.mpr Int.ofNat_le
  · intro m b i hb H3 g3 σ4 H4 s4 N kN
    have hb := of_decide_eq_true hb
    have f2 : 2 ≤ v + 1 - m := by omega
    generalize hf : v + 1 - m = f at *
    have fv : f ≤ v := Nat.le_trans (Nat.le_mul_of_pos_left f (by omega)) hb
    refine q_if s4 (EVT.eq (c := false) (et_B (W := wF) (ev_op (ev_op (ev_varW rfl) (ev_varW rfl) (rr_mod (by omega))) ev_int rr_eqI)) ?_) (fun z => nomatch z) fun _ H5 s5 => ?_
    · refine decide_eq_false fun z => nd f f2 hb ?_
      omega
    · refine q_next (q_augI s5 rfl ev_int fun σ6 H6 s6 => ?_)
      refine kN (m - 1) () σ6 H6 (by omega) (by omega) ?_
      have e : ((v + 1 - (m - 1) : Nat) : Int) = (f : Int) + 1 := by omega
      rw [e]
      exact s6
  · intro m b i hb σ3 H3 s3
    exact q_ret1 (P := Eq (.bl true)) s3 ev_bl k
end
/-! ### Ground -/
def GrOk (p n : Nat) : Prop := 2 ≤ p ∧ p < 1000 ∧ noDiv p 2 ∧ n < 1000
def sp_Ground__init_ (K : PySem.W.Frag) (G : Ads) : Sp := spI K G.Ground (α := Nat × Nat) (fun a => [.int a.1, .int a.2]) (fun a => GrOk a.1 a.2) (fun a => [("prime", .int a.1), ("length", .int a.2)])
def sp_Ground_p (K : PySem.W.Frag) (G : Ads) : Sp := spP K (α := Nat × Nat) (fun a => [gr G a.1 a.2]) (fun _ => True) (fun a d => .int a.1 = d)
def sp_Ground_n (K : PySem.W.Frag) (G : Ads) : Sp := spP K (α := Nat × Nat) (fun a => [gr G a.1 a.2]) (fun _ => True) (fun a d => .int a.2 = d)
def zeroM (n : Nat) : List Int := List.replicate n 0
def sp_Ground_zero (K : PySem.W.Frag) (G : Ads) : Sp := spP K (α := Nat × Nat) (fun a => [gr G a.1 a.2]) (fun a => a.2 < 1000) (fun a d => rowD (zeroM a.2) = d)
def unitM (n k : Nat) : List Int := (List.range n).map fun c => if k = c then 1 else 0
def unitsM (n : Nat) : List (List Int) := (List.range n).map (unitM n)
abbrev codeD (c : List (List Int)) : Dt := .tup (c.map rowD)
def sp_Ground_units (K : PySem.W.Frag) (G : Ads) : Sp := spP K (α := Nat × Nat) (fun a => [gr G a.1 a.2]) (fun a => a.2 < 1000) (fun a d => codeD (unitsM a.2) = d)
def optD : Option Int → Dt
  | some i => .int i
  | none => .non
def sp_Ground_inverse_of (K : PySem.W.Frag) (G : Ads) : Sp := spP K (α := (Nat × Nat) × Int) (fun a => [gr G a.1.1 a.1.2, .int a.2]) (fun a => 2 ≤ a.1.1 ∧ a.1.1 < 1000 ∧ a.2.natAbs < 2 ^ 64) (fun a d => optD (invM a.1.1 a.2) = d)
section
variable {P : Program} {w : World} {K : PySem.W.Frag} {mg : Str → Option Value} {base : Heap} {G : Ads} {f : Addr} {fd : FuncData}
variable {Z : Zn} {H0 : Hp} {L : Own} {Γ : Gam} {W : Hp → Addr → Prop} {E : XK} {t : TA} {te : TE} {p n : Nat}
theorem ev_fprime [Wd K Z L W] (T : Txt K mg G) (h : EV K Z H0 L Γ (wW Z) te (Eq (gr G p n))) : EV K Z H0 L Γ W (tFld K te "prime") (Eq (.int p)) := ev_fld T.k_Ground T.n_Ground_prime h rfl
theorem ev_flength [Wd K Z L W] (T : Txt K mg G) (h : EV K Z H0 L Γ (wW Z) te (Eq (gr G p n))) : EV K Z H0 L Γ W (tFld K te "length") (Eq (.int n)) := ev_fld T.k_Ground T.n_Ground_length h rfl
theorem ev_gp [Wd K Z L W] (h : EV K Z H0 L Γ (wW Z) te (Eq (gr G p n))) : EV K Z H0 L Γ W (tMeth G.Ground "p" (sp_Ground_p K G) [] E te tNil) (Eq (.int p)) := ev_meth ((p, n) : Nat × Nat) h ea_nil rfl trivial (by rfl)
theorem ev_gn [Wd K Z L W] (h : EV K Z H0 L Γ (wW Z) te (Eq (gr G p n))) : EV K Z H0 L Γ W (tMeth G.Ground "n" (sp_Ground_n K G) [] E te tNil) (Eq (.int n)) := ev_meth ((p, n) : Nat × Nat) h ea_nil rfl trivial (by rfl)
theorem ev_gzero [Wd K Z L W] (h : EV K Z H0 L Γ (wW Z) te (Eq (gr G p n))) (hn : n < 1000) : EV K Z H0 L Γ W (tMeth G.Ground "zero" (sp_Ground_zero K G) [] E te tNil) (Eq (rowD (zeroM n))) := ev_meth ((p, n) : Nat × Nat) h ea_nil rfl hn (by rfl)
theorem ev_gunits [Wd K Z L W] (h : EV K Z H0 L Γ (wW Z) te (Eq (gr G p n))) (hn : n < 1000) : EV K Z H0 L Γ W (tMeth G.Ground "units" (sp_Ground_units K G) [] E te tNil) (Eq (codeD (unitsM n))) := ev_meth ((p, n) : Nat × Nat) h ea_nil rfl hn (by rfl)
theorem ev_ginv [Wd K Z L W] {a : Int} (h : EV K Z H0 L Γ (wW Z) te (Eq (gr G p n))) (ha : EVA K Z H0 L Γ (wW Z) t (Eq [.int a])) (h1 : 2 ≤ p) (h2 : p < 1000) (h3 : a.natAbs < 2 ^ 64) : EV K Z H0 L Γ W (tMeth G.Ground "inverse_of" (sp_Ground_inverse_of K G) [] E te t) (Eq (optD (invM p a))) :=
  ev_meth (((p, n), a) : (Nat × Nat) × Int) h ha rfl ⟨h1, h2, h3⟩ (by rfl)
end
section
variable {P : Program} {w : World} {K : PySem.W.Frag} {mg : Str → Option Value} {base : Heap} {G : Ads} {f : Addr} {fd : FuncData}
theorem sc_Ground__init_ : FnScope ["self", "p", "n"] ["self", "p", "n"] (defScope (inClass (top 13) 0)) := ⟨rfl, rfl, rfl, by decide +kernel, rfl, by decide +kernel, by decide +kernel⟩
theorem ok_Ground__init_ (F : Df K "__init__" "Ground.__init__" (inClass (top 13) 0) f fd) (T : Txt K mg G) (c_is_prime : Cl P w K mg base 2 "is_prime" (sp_is_prime K G)) (c_is_number : Cl P w K mg base 1 "is_number" (sp_is_number K G)) : FnOk P w K mg base CX0 3 f fd ["self", "p", "n"] (sp_Ground__init_ K G) := by
  have sc := sc_Ground__init_
  refine F.ok sc (fun vs H Q E h => spI_len h fun _ => rfl) (fun cdv A outer s H vs Q E hr h => ?_)
  refine ⟨_, PSs.nox (pss_cons (ps_if (pt_not (pt_val (pe_cl c_is_prime hr (by decide) (by rfl) (pa_cons (pv 1) pa_nil)))) pss_never pss_nil) (pss_cons (ps_if (pt_not (pt_val (pe_cl c_is_number hr (by decide) (by rfl) (pa_cons (pv 2) pa_nil)))) pss_never pss_nil) (pss_cons (x_sets (K := K) (pv 0) (pv 1)) (pss_cons (x_sets (K := K) (pv 0) (pv 2)) pss_nil)))), ?_⟩
  obtain ⟨⟨p, n⟩, x, dx, ws, rfl, hx, ⟨p2, p3, nd, n3⟩, ⟨Hb, hb1, hb2, hargs⟩, k⟩ := h
  have st : At K z0 H [] [some (.raw (.ref x)), some (.int p), some (.int n)] (L2.start ["self", "p", "n"] (V.ref x :: ws)) H := at_beg (.cons (.raw _) (hargs.mono (Gm.ofEx hb2))) rfl rfl
  refine q_if st (EVT.eq (c := false) (et_not (et_test (W := wF) (ev_call (x := p) (ea_cons (ev_varW rfl) ea_nil) ⟨p2, p3, nd⟩))) rfl) (fun z => nomatch z) fun _ H1 s1 => ?_
  refine q_next (q_if s1 (EVT.eq (c := false) (et_not (et_test (W := wF) (ev_isnum (d := .int n) (ea_cons (ev_varW rfl) ea_nil)))) (by simp [isNum])) (fun z => nomatch z) fun _ H2 s2 => ?_)
  have ex : ∀ {H'}, At K z0 H [] [some (.raw (.ref x)), some (.int p), some (.int n)] (L2.start ["self", "p", "n"] (V.ref x :: ws)) H' → Ex H H' := fun a => a.ex0 fun _ q => nomatch q
  refine q_next (q_setI s2 (ex s2 x _ hx) rfl T.k_Ground T.n_Ground_prime rfl (ev_var rfl).imm fun d v H3 pd e3 i3 => ?_)
  subst pd
  cases i3
  have eb : Ex Hb (upd H3 x (.ins G.Ground dx (putF "prime" (.int p) []))) := fun b o e => by
    rw [upd_ne (ne_of_none e hb1)]
    exact e3 b o (ex s2 b o (hb2 b o e))
  have s3 : At K z0 (upd H3 x (.ins G.Ground dx (putF "prime" (.int p) []))) [] [some (.raw (.ref x)), some (.int p), some (.int n)] (L2.start ["self", "p", "n"] (V.ref x :: ws)) (upd H3 x (.ins G.Ground dx (putF "prime" (.int p) []))) := at_beg (.cons (.raw _) (hargs.mono (Gm.ofEx eb))) rfl rfl
  refine q_setI s3 upd_same rfl T.k_Ground T.n_Ground_length rfl (ev_var rfl).imm fun d v H4 pd e4 i4 => ?_
  subst pd
  cases i4
  refine k _ _ (fun b o hb e => ?_) upd_same (.cons (.int _) (.cons (.int _) .nil))
  rw [upd_ne hb]
  refine e4 b o ?_
  rw [upd_ne hb]
  exact e3 b o (ex s2 b o e)
theorem sc_Ground_p : FnScope ["self"] ["self"] (defScope (inClass (top 13) 2)) := ⟨rfl, rfl, rfl, by decide +kernel, rfl, by decide +kernel, by decide +kernel⟩
theorem ok_Ground_p (F : Df K "p" "Ground.p" (inClass (top 13) 2) f fd) (T : Txt K mg G)  : FnOk P w K mg base CX0 1 f fd ["self"] (sp_Ground_p K G) := by
  have sc := sc_Ground_p
  refine F.ok sc (fun vs H Q E h => spP_len h fun _ => rfl) (fun cdv A outer s H vs Q E hr h => ?_)
  refine ⟨_, PSs.nox (pss_cons (ps_ret (x_fld (K := K) (pv 0))) pss_nil), ?_⟩
  obtain ⟨⟨p, n⟩, pre, hargs, k⟩ := h
  have st : At K z0 H [] [some (gr G p n)] (L2.start ["self"] vs) H := at_beg hargs rfl rfl
  exact q_ret1 st (ev_fprime T (ev_varW rfl)) k
theorem sc_Ground_n : FnScope ["self"] ["self"] (defScope (inClass (top 13) 3)) := ⟨rfl, rfl, rfl, by decide +kernel, rfl, by decide +kernel, by decide +kernel⟩
theorem ok_Ground_n (F : Df K "n" "Ground.n" (inClass (top 13) 3) f fd) (T : Txt K mg G)  : FnOk P w K mg base CX0 1 f fd ["self"] (sp_Ground_n K G) := by
  have sc := sc_Ground_n
  refine F.ok sc (fun vs H Q E h => spP_len h fun _ => rfl) (fun cdv A outer s H vs Q E hr h => ?_)
  refine ⟨_, PSs.nox (pss_cons (ps_ret (x_fld (K := K) (pv 0))) pss_nil), ?_⟩
  obtain ⟨⟨p, n⟩, pre, hargs, k⟩ := h
  have st : At K z0 H [] [some (gr G p n)] (L2.start ["self"] vs) H := at_beg hargs rfl rfl
  exact q_ret1 st (ev_flength T (ev_varW rfl)) k
theorem sc_Ground_zero : FnScope ["self"] ["self"] (defScope (inClass (top 13) 4)) := ⟨rfl, rfl, rfl, by decide +kernel, rfl, by decide +kernel, by decide +kernel⟩
theorem ok_Ground_zero (F : Df K "zero" "Ground.zero" (inClass (top 13) 4) f fd) (T : Txt K mg G)  : FnOk P w K mg base CX0 1 f fd ["self"] (sp_Ground_zero K G) := by
  have sc := sc_Ground_zero
  refine F.ok sc (fun vs H Q E h => spP_len h fun _ => rfl) (fun cdv A outer s H vs Q E hr h => ?_)
  refine ⟨_, PSs.nox (pss_cons (ps_ret (pe_op (x_mulV (K := K)) (pe_tup (pa_cons pe_int pa_nil)) (x_fld (K := K) (pv 0)))) pss_nil), ?_⟩
  obtain ⟨⟨p, n⟩, pre, hargs, k⟩ := h
  have st : At K z0 H [] [some (gr G p n)] (L2.start ["self"] vs) H := at_beg hargs rfl rfl
  have pre : n < 1000 := pre
  refine q_ret1 st (EV.eq (ev_op (ev_tup (ea_cons ev_int ea_nil)) (ev_flength T (ev_varW rfl)) (rr_mulZ (by omega) (by omega))) ?_) k
  show Dt.tup (List.replicate (n : Int).toNat (.int 0)) = rowD (zeroM n)
  unfold rowD zeroM
  rw [List.map_replicate]
  rfl
theorem sc_Ground_units : FnScope ["self", "k", "column"] ["self"] (defScope (inClass (top 13) 5)) := ⟨rfl, rfl, rfl, by decide +kernel, rfl, by decide +kernel, by decide +kernel⟩
theorem ok_Ground_units (F : Df K "units" "Ground.units" (inClass (top 13) 5) f fd) (T : Txt K mg G)  : FnOk P w K mg base CX0 1 f fd ["self"] (sp_Ground_units K G) := by
  have sc := sc_Ground_units
  refine F.ok sc (fun vs H Q E h => spP_len h fun _ => rfl) (fun cdv A outer s H vs Q E hr h => ?_)
  refine ⟨_, PSs.nox (pss_cons (ps_ret (pe_callTy (x_tuple (K := K)) (by rfl) T.f_tuple (by decide +kernel) (pa_cons (pe_lc (own := [("k", 1)]) rfl sc.nd (pi_range1 (by rfl) T.f_range (pa_cons (x_fld (K := K) (pv 0)) pa_nil)) (blkOk_by (by kernel_rfl)) (fun _ _ _ _ _ => (pg_name (i := 1) sc.nd rfl (by first | exact Or.inl rfl | exact Or.inr rfl))) (fun _ _ _ _ _ => pts_nil) (fun _ _ _ _ _ => (pe_callTy (x_tuple (K := K)) (by rfl) T.f_tuple (by decide +kernel) (pa_cons (pe_lc (own := [("column", 2)]) rfl sc.nd (pi_range1 (by rfl) T.f_range (pa_cons (x_fld (K := K) (pv 0)) pa_nil)) (blkOk_by (by kernel_rfl)) (fun _ _ _ _ _ => (pg_name (i := 2) sc.nd rfl (by first | exact Or.inl rfl | exact Or.inr rfl))) (fun _ _ _ _ _ => pts_nil) (fun _ _ _ _ _ => (pe_callTy x_int (by rfl) T.f_int (by decide +kernel) (pa_cons (pe_cmpR (x_eq (K := K) hr.units) (pv 1) (pv 2) (nomark _)) pa_nil)))) pa_nil)))) pa_nil))) pss_nil), ?_⟩
  obtain ⟨⟨p, n⟩, pre, hargs, k⟩ := h
  have pre : n < 1000 := pre
  have st : At K z0 H [] [some (gr G p n), none, none] (L2.start ["self", "k", "column"] vs) H := at_beg hargs rfl rfl
  refine q_ret1 st (EV.eq (ev_cb (ea_cons (ev_lcM (xs := List.range n) (h := fun k : Nat => .int (0 + k)) (is := [1]) (es := fun k => [.int (0 + (k : Nat))]) (fn := fun k => rowD (unitM n k)) (it_r1 (N := Mt z0 []) (n := n) (W := wW z0) (ea_cons (ev_flength T (ev_varW rfl)) ea_nil) (by omega)) (.inl fun _ => Iff.rfl) (by rw [List.length_range]; omega) (fun _ _ => gt_name) (by decide) fun k1 hk => ?_) ea_nil) (rc_tuple (.lst _))) ?_) k
  · refine EV.eq (ev_cb (ea_cons (ev_lcM (xs := List.range n) (h := fun k : Nat => .int (0 + k)) (is := [2]) (es := fun k => [.int (0 + (k : Nat))]) (fn := fun c => .int (if k1 = c then 1 else 0)) (it_r1 (N := Mt z0 []) (n := n) (W := wW z0) (ea_cons (ev_flength T (ev_varW rfl)) ea_nil) (by omega)) (.inl fun _ => Iff.rfl) (by rw [List.length_range]; omega) (fun _ _ => gt_name) (by decide) fun c hc => ?_) ea_nil) (rc_tuple (.lst _))) ?_
    · refine EV.eq (ev_cb (ea_cons (ev_op (ev_varW rfl) (ev_varW rfl) rr_eqI) ea_nil) rc_intB) ?_
      congr 1
      by_cases q : k1 = c
      · subst q; simp
      · rw [if_neg q, if_neg]
        simp
        omega
    · show Dt.tup _ = Dt.tup _
      unfold unitM
      rw [List.map_map]
      rfl
  · show Dt.tup _ = Dt.tup _
    unfold unitsM
    rw [List.map_map]
    rfl
theorem sc_Ground_inverse_of : FnScope ["self", "number", "other"] ["self", "number"] (defScope (inClass (top 13) 6)) := ⟨rfl, rfl, rfl, by decide +kernel, rfl, by decide +kernel, by decide +kernel⟩
theorem ok_Ground_inverse_of (F : Df K "inverse_of" "Ground.inverse_of" (inClass (top 13) 6) f fd) (T : Txt K mg G)  : FnOk P w K mg base CX0 1 f fd ["self", "number"] (sp_Ground_inverse_of K G) := by
  have sc := sc_Ground_inverse_of
  refine F.ok sc (fun vs H Q E h => spP_len h fun _ => rfl) (fun cdv A outer s H vs Q E hr h => ?_)
  refine ⟨_, PSs.nox (pss_cons (ps_for PassesOwn.never rfl (pi_range2 (by rfl) T.f_range (pa_cons pe_int (pa_cons (x_fld (K := K) (pv 0)) pa_nil))) (pg_name (i := 2) sc.nd rfl (Or.inl rfl)) (pss_cons (ps_if (pt_cmpR (x_eq (K := K) hr.units) (pe_op op_mod (pe_op (x_mulV (K := K)) (pv 1) (pv 2)) (x_fld (K := K) (pv 0))) pe_int (nomark _)) (pss_cons (ps_ret (pv 2)) pss_nil) pss_nil) pss_nil)) (pss_cons (ps_ret pe_non) pss_nil)), ?_⟩
  obtain ⟨⟨⟨p, n⟩, a⟩, ⟨p2, p3, a3⟩, hargs, k⟩ := h
  have p2 : 2 ≤ p := p2
  have p3 : p < 1000 := p3
  have st : At K z0 H [] [some (gr G p n), some (.int a), none] (L2.start ["self", "number", "other"] vs) H := at_beg hargs rfl rfl
  refine q_for (β := Unit) (I := fun _ i _ => ∀ j, j < i → a * (1 + (j : Int)) % p ≠ 1) (Lf := fun _ _ _ => []) (Γf := fun _ _ _ => [some (gr G p n), some (.int a), none]) (is := [2]) (es := fun d => [d]) st (it_r2 (W := wW z0) (ea_cons ev_int (ea_cons (ev_fprime T (ev_varW rfl)) ea_nil)) (by omega)) (fun _ _ _ _ => gt_name) (fun _ _ _ => rfl) (fun _ _ => ⟨(), fun _ h => absurd h (Nat.not_lt_zero _), rfl, .keep (.keep (.keep .nil))⟩) ?_ ?_
  · intro items pi i d b hd hi H1 g1 σ2 H2 s2 N kN
    subst pi
    have hlt : i < (↑p - 1 : Int).toNat := by rw [← rngD_len 1 (↑p - 1 : Int).toNat]; exact (List.getElem?_eq_some_iff.mp hd).1
    rw [rngD_get hlt] at hd
    cases hd
    refine q_if s2 (et_B (W := wF) (ev_op (ev_op (ev_op (ev_varW rfl) (ev_varW rfl) (rr_mulV (small_mul a3 (by omega)))) (ev_fprime T (ev_varW rfl)) (rr_mod (by omega))) ev_int rr_eqI)) (fun hit H3 s3 => ?_) fun miss H3 s3 => ?_
    · have hit := of_decide_eq_true hit
      refine q_ret1 (P := Eq (optD (invM p a))) (s3.base g1) (EV.eq (ev_var rfl).imm ?_) k
      have hr : ((List.range (p - 1)).map fun i : Nat => 1 + (i : Int))[i]? = some (1 + (i : Int)) := by rw [List.getElem?_map, List.getElem?_range (by omega)]; rfl
      have hf : invM p a = some (1 + (i : Int)) := Mx.find_hit (i := i) (fun j y hj hy => ?_) hr (decide_eq_true hit)
      · rw [hf]; rfl
      · rw [List.getElem?_map, List.getElem?_range (by omega)] at hy
        cases hy
        exact decide_eq_false (hi j hj)
    · refine q_next (kN () σ2 H3 (fun j hj => ?_) (s3.less (.keep (.keep (.drop .nil)))))
      have miss := of_decide_eq_false miss
      rcases Nat.lt_succ_iff_lt_or_eq.mp hj with q | q
      · exact hi j q
      · rw [q]; exact miss
  · intro items pi b hi σ2 H2 s2
    subst pi
    refine q_ret1 (P := Eq (optD (invM p a))) s2 (EV.eq ev_non ?_) k
    have hf : invM p a = none := Mx.find_miss fun j y hy => by
      rw [List.getElem?_map] at hy
      cases q : (List.range (p - 1))[j]? with
      | none => rw [q] at hy; cases hy
      | some z =>
        have hj : j < p - 1 := by simpa using (List.getElem?_eq_some_iff.mp q).1
        rw [List.getElem?_range hj] at hy
        cases hy
        refine decide_eq_false (hi j ?_)
        rw [rngD_len]
        omega
    rw [hf]
    rfl
end
end Wk
end
section
set_option Elab.async false
set_option linter.all false
set_option maxRecDepth 100000
set_option maxHeartbeats 4000000
set_option autoImplicit false
namespace Wk
open PySem L2 Ly Mx
/-! ### Ground.__eq__ -/
def sp_Ground__eq_ (K : PySem.W.Frag) (G : Ads) : Sp := spP K (α := (Nat × Nat) × (Nat × Nat)) (fun a => [gr G a.1.1 a.1.2, gr G a.2.1 a.2.2]) (fun _ => True) (fun a d => d = .bl (decide (a.1 = a.2)))
/-! ### rows -/
def sp_scaled (K : PySem.W.Frag) (G : Ads) : Sp := spP K (α := (Nat × Nat) × Int × List Int) (fun a => [gr G a.1.1 a.1.2, .int a.2.1, rowD a.2.2]) (fun a => 0 < a.1.1 ∧ a.2.1.natAbs < 2 ^ 64 ∧ a.2.2.length ≤ 10000 ∧ ∀ x ∈ a.2.2, x.natAbs < 2 ^ 64) (fun a d => rowD (scM a.1.1 a.2.1 a.2.2) = d)
def sp_subtracted (K : PySem.W.Frag) (G : Ads) : Sp := spP K (α := (Nat × Nat) × List Int × List Int) (fun a => [gr G a.1.1 a.1.2, rowD a.2.1, rowD a.2.2]) (fun a => 0 < a.1.1 ∧ a.2.1.length ≤ 10000) (fun a d => rowD (subM a.1.1 a.2.1 a.2.2) = d)
def pivD (r : List Int) : Dt := match pivM r with
  | some i => .int i
  | none => .non
def sp_pivot (K : PySem.W.Frag) (_ : Ads) : Sp := spP K (α := List Int) (fun r => [rowD r]) (fun _ => True) (fun r d => pivD r = d)
section
variable {P : Program} {w : World} {K : PySem.W.Frag} {mg : Str → Option Value} {base : Heap} {G : Ads} {f : Addr} {fd : FuncData}
variable {Z : Zn} {H0 : Hp} {L : Own} {Γ : Gam} {W : Hp → Addr → Prop} {E : XK} {t : TA} {te : TE} {p n : Nat}
theorem ev_scaled [Wd K Z L W] {k : Int} {r : List Int} (h : EVA K Z H0 L Γ (wW Z) t (Eq [gr G p n, .int k, rowD r])) (h1 : 0 < p) (h2 : k.natAbs < 2 ^ 64) (h3 : r.length ≤ 10000) (h4 : ∀ x ∈ r, x.natAbs < 2 ^ 64) : EV K Z H0 L Γ W (tCall (sp_scaled K G) [] E t) (Eq (rowD (scM p k r))) :=
  ev_call (x := ((p, n), k, r)) h ⟨h1, h2, h3, h4⟩
theorem ev_subtracted [Wd K Z L W] {r s : List Int} (h : EVA K Z H0 L Γ (wW Z) t (Eq [gr G p n, rowD r, rowD s])) (h1 : 0 < p) (h3 : r.length ≤ 10000) : EV K Z H0 L Γ W (tCall (sp_subtracted K G) [] E t) (Eq (rowD (subM p r s))) :=
  ev_call (x := ((p, n), r, s)) h ⟨h1, h3⟩
theorem ev_pivot [Wd K Z L W] {r : List Int} (h : EVA K Z H0 L Γ (wW Z) t (Eq [rowD r])) : EV K Z H0 L Γ W (tCall (sp_pivot K G) [] E t) (Eq (pivD r)) := ev_call (x := r) h trivial
end
theorem imm_pivD (r : List Int) : Imm (pivD r) := by
  unfold pivD
  cases pivM r <;> exact inferInstance
section
variable {P : Program} {w : World} {K : PySem.W.Frag} {mg : Str → Option Value} {base : Heap} {G : Ads} {f : Addr} {fd : FuncData}
theorem sc_Ground__eq_ : FnScope ["self", "other"] ["self", "other"] (defScope (inClass (top 13) 1)) := ⟨rfl, rfl, rfl, by decide +kernel, rfl, by decide +kernel, by decide +kernel⟩
theorem ok_Ground__eq_ (F : Df K "__eq__" "Ground.__eq__" (inClass (top 13) 1) f fd) (T : Txt K mg G)  : FnOk P w K mg base CX0 1 f fd ["self", "other"] (sp_Ground__eq_ K G) := by
  have sc := sc_Ground__eq_
  refine F.ok sc (fun vs H Q E h => spP_len h fun _ => rfl) (fun cdv A outer s H vs Q E hr h => ?_)
  refine ⟨_, PSs.nox (pss_cons (ps_ret (pe_and (pe_callB (x_isi (K := K)) (by rfl) T.f_isinstance (by decide +kernel) (pa_cons (pv 1) (pa_cons (pe_glob (v := .ref G.Ground) (by rfl) T.g_Ground rfl) pa_nil))) (pe_one (pe_cmpR (x_eq (K := K) hr.units) (pe_tup (pa_cons (x_fld (K := K) (pv 0)) (pa_cons (x_fld (K := K) (pv 0)) pa_nil))) (pe_tup (pa_cons (x_fld (K := K) (pv 1)) (pa_cons (x_fld (K := K) (pv 1)) pa_nil))) (nomark _))))) pss_nil), ?_⟩
  obtain ⟨⟨⟨p, n⟩, p', n'⟩, pre, hargs, k⟩ := h
  have st : At K z0 H [] [some (gr G p n), some (gr G p' n')] (L2.start ["self", "other"] vs) H := at_beg hargs rfl rfl
  refine q_ret1 (P := Eq (.bl (decide ((p, n) = (p', n'))))) st (EV.eq (ev_andV (W1 := wF) (W2 := wF) (b := true) (c := decide ((p, n) = (p', n'))) (ev_cb (ea_cons (ev_varW rfl) (ea_cons (ev_c fun _ _ => .raw _) ea_nil)) (rc_isiO T.i_Ground)) fun _ => ?_) (by simp)) (fun d v H' q e i => k d v H' q.symm e i)
  refine EV.eq (ev_op (ev_tup (ea_cons (ev_fprime T (ev_varW rfl)) (ea_cons (ev_flength T (ev_varW rfl)) ea_nil))) (ev_tup (ea_cons (ev_fprime T (ev_varW rfl)) (ea_cons (ev_flength T (ev_varW rfl)) ea_nil))) (rr_eqR (r := [(p : Int), n]) (s := [(p' : Int), n']))) ?_
  congr 1
  refine decide_eq_decide.mpr ⟨fun q => ?_, fun q => ?_⟩
  · simp at q
    have q1 := q.1
    have q2 := q.2
    rw [show p = p' by omega, show n = n' by omega]
  · cases q
    rfl
theorem sc_scaled : FnScope ["ground", "number", "row", "entry"] ["ground", "number", "row"] (defScope (top 15)) := ⟨rfl, rfl, rfl, by decide +kernel, rfl, by decide +kernel, by decide +kernel⟩
theorem ok_scaled (F : Df K "scaled" "scaled" (top 15) f fd) (T : Txt K mg G) (c_Ground_p : Me P w K mg base 1 G.Ground "p" (sp_Ground_p K G)) : FnOk P w K mg base CX0 2 f fd ["ground", "number", "row"] (sp_scaled K G) := by
  have sc := sc_scaled
  refine F.ok sc (fun vs H Q E h => spP_len h fun _ => rfl) (fun cdv A outer s H vs Q E hr h => ?_)
  refine ⟨_, PSs.nox (pss_cons (ps_ret (pe_callTy (x_tuple (K := K)) (by rfl) T.f_tuple (by decide +kernel) (pa_cons (pe_lc (own := [("entry", 3)]) rfl sc.nd (x_sq (K := K) (pv 2)) (blkOk_by (by kernel_rfl)) (fun _ _ _ _ _ => (pg_name (i := 3) sc.nd rfl (by first | exact Or.inl rfl | exact Or.inr rfl))) (fun _ _ _ _ _ => pts_nil) (fun _ _ _ _ _ => (pe_op op_mod (pe_op (x_mulV (K := K)) (pv 1) (pv 3)) (pe_me0 c_Ground_p hr (by decide) (pv 0))))) pa_nil))) pss_nil), ?_⟩
  obtain ⟨⟨⟨p, n⟩, a, r⟩, ⟨p0, ka, rl, rb⟩, hargs, k⟩ := h
  have st : At K z0 H [] [some (gr G p n), some (.int a), some (rowD r), none] (L2.start ["ground", "number", "row", "entry"] vs) H := at_beg hargs rfl rfl
  have p0 : 0 < p := p0
  refine q_ret1 st (EV.eq (ev_cb (ea_cons (ev_lcM (xs := r) (h := .int) (is := [3]) (es := fun x => [.int x]) (fn := fun x => .int (a * x % p)) (it_tup (N := Mt z0 []) (ev_var rfl)) (.inl fun _ => Iff.rfl) (Nat.le_trans rl (by decide)) (fun _ _ => gt_name) (by decide) fun x hx => ?_) ea_nil) (rc_tuple (.lst _))) ?_) k
  · exact ev_op (ev_op (ev_varW rfl) (ev_varW rfl) (rr_mulV (small_mul ka (rb x hx)))) (ev_gp (ev_varW rfl)) (rr_mod (by omega))
  · show Dt.tup _ = Dt.tup _
    unfold scM
    rw [List.map_map]
    rfl
theorem sc_subtracted : FnScope ["ground", "one", "other", "left", "right"] ["ground", "one", "other"] (defScope (top 16)) := ⟨rfl, rfl, rfl, by decide +kernel, rfl, by decide +kernel, by decide +kernel⟩
theorem ok_subtracted (F : Df K "subtracted" "subtracted" (top 16) f fd) (T : Txt K mg G) (c_Ground_p : Me P w K mg base 1 G.Ground "p" (sp_Ground_p K G)) : FnOk P w K mg base CX0 2 f fd ["ground", "one", "other"] (sp_subtracted K G) := by
  have sc := sc_subtracted
  refine F.ok sc (fun vs H Q E h => spP_len h fun _ => rfl) (fun cdv A outer s H vs Q E hr h => ?_)
  refine ⟨_, PSs.nox (pss_cons (ps_ret (pe_callTy (x_tuple (K := K)) (by rfl) T.f_tuple (by decide +kernel) (pa_cons (pe_lc (own := [("left", 3), ("right", 4)]) rfl sc.nd (x_zip (K := K) (by rfl) T.f_zip (pa_cons (pv 1) (pa_cons (pv 2) pa_nil))) (blkOk_by (by kernel_rfl)) (fun _ _ _ _ _ => (x_tup (K := K) (n := 2) rfl (pgs_cons (pg_name (i := 3) sc.nd rfl (by first | exact Or.inl rfl | exact Or.inr rfl)) (pgs_cons (pg_name (i := 4) sc.nd rfl (by first | exact Or.inl rfl | exact Or.inr rfl)) pgs_nil)))) (fun _ _ _ _ _ => pts_nil) (fun _ _ _ _ _ => (pe_op op_mod (pe_op op_sub (pv 3) (pv 4)) (pe_me0 c_Ground_p hr (by decide) (pv 0))))) pa_nil))) pss_nil), ?_⟩
  obtain ⟨⟨⟨p, n⟩, r, s⟩, ⟨p0, rl⟩, hargs, k⟩ := h
  have st : At K z0 H [] [some (gr G p n), some (rowD r), some (rowD s), none, none] (L2.start ["ground", "one", "other", "left", "right"] vs) H := at_beg hargs rfl rfl
  have p0 : 0 < p := p0
  have it : IT K z0 H [] [some (gr G p n), some (rowD r), some (rowD s), none, none] (Mt z0 []) (iZipU K (tCons (tVar 1) (tCons (tVar 2) tNil))) (Eq ((List.zip r s).map fun z => Dt.tup [.int z.1, .int z.2])) := fun σ H a R q =>
    it_zip (PL := fun ds es => ds = r.map .int ∧ es = s.map .int) (fun σ H a Q q => ea_cons (ev_var rfl) (ea_cons (ev_var rfl) ea_nil) σ H a Q fun ds vs H' pd => q ds vs H' ⟨_, _, _, _, pd.symm, .tup _, .tup _, rfl, rfl⟩) σ H a R fun items J H1 G' Y pi => q items J H1 G' Y (by
      obtain ⟨ds, es, ⟨rfl, rfl⟩, rfl⟩ := pi
      unfold zipD
      rw [List.zipWith_map, List.zip, List.map_zipWith])
  refine q_ret1 st (EV.eq (ev_cb (ea_cons (ev_lcM (is := [3, 4]) (es := fun z : Int × Int => [.int z.1, .int z.2]) (fn := fun z => .int ((z.1 - z.2) % p)) it (.inl fun _ => Iff.rfl) (by rw [List.length_zip]; exact Nat.le_trans (Nat.min_le_left _ _) (Nat.le_trans rl (by decide))) (fun _ _ => gt_tup2) (by decide) fun x hx => ?_) ea_nil) (rc_tuple (.lst _))) ?_) k
  · exact ev_op (ev_op (ev_varW rfl) (ev_varW rfl) rr_sub) (ev_gp (ev_varW rfl)) (rr_mod (by omega))
  · show Dt.tup _ = Dt.tup _
    unfold subM
    rw [List.zip, List.map_zipWith, List.map_zipWith]
theorem sc_pivot : FnScope ["row", "column", "entry"] ["row"] (defScope (top 17)) := ⟨rfl, rfl, rfl, by decide +kernel, rfl, by decide +kernel, by decide +kernel⟩
theorem ok_pivot (F : Df K "pivot" "pivot" (top 17) f fd) (T : Txt K mg G)  : FnOk P w K mg base CX0 1 f fd ["row"] (sp_pivot K G) := by
  have sc := sc_pivot
  refine F.ok sc (fun vs H Q E h => spP_len h fun _ => rfl) (fun cdv A outer s H vs Q E hr h => ?_)
  refine ⟨_, PSs.nox (pss_cons (ps_for PassesOwn.never rfl (x_enum (K := K) (by rfl) T.f_enumerate (pa_cons (pv 0) pa_nil)) (x_tup (K := K) (n := 2) rfl (pgs_cons (pg_name (i := 1) sc.nd rfl (Or.inl rfl)) (pgs_cons (pg_name (i := 2) sc.nd rfl (Or.inl rfl)) pgs_nil))) (pss_cons (ps_if (pt_cmpR (x_ne (K := K) hr.units) (pv 2) pe_int (nomark _)) (pss_cons (ps_ret (pv 1)) pss_nil) pss_nil) pss_nil)) (pss_cons (ps_ret pe_non) pss_nil)), ?_⟩
  obtain ⟨r, pre, hargs, k⟩ := h
  have st : At K z0 H [] [some (rowD r), none, none] (L2.start ["row", "column", "entry"] vs) H := at_beg hargs rfl rfl
  refine q_for (β := Unit) (I := fun _ i _ => ∀ (j : Nat) (y : Int), j < i → r[j]? = some y → y = 0) (Lf := fun _ _ _ => []) (Γf := fun _ _ _ => [some (rowD r), none, none]) (is := [1, 2]) (es := fun d => match d with | .tup [a, b] => [a, b] | _ => [.non, .non]) st
    (it_enum (PL := Eq (r.map .int)) fun σ H a Q q => ea_cons (ev_var rfl) ea_nil σ H a Q fun ds vs H' pd => q ds vs H' ⟨_, _, pd.symm, .tup _, rfl⟩) ?_ (fun _ _ _ => rfl) (fun _ _ => ⟨(), fun j y h => absurd h (Nat.not_lt_zero _), rfl, .keep (.keep (.keep .nil))⟩) ?_ ?_
  · rintro items ⟨ds, rfl, rfl⟩ d hd
    obtain ⟨i, hi, rfl⟩ := List.mem_map.mp hd
    exact gt_tup2
  · rintro items ⟨ds, rfl, rfl⟩ i d b hd hi H1 g1 σ2 H2 s2 N kN
    have hlt : i < r.length := by
      have := (List.getElem?_eq_some_iff.mp hd).1
      rw [enumD_len, List.length_map] at this
      exact this
    have hr : r[i]? = some r[i] := List.getElem?_eq_getElem hlt
    rw [enumD_get (d := .int r[i]) (by rw [List.getElem?_map, hr]; rfl)] at hd
    cases hd
    refine q_if s2 (et_B (W := wF) (ev_op (ev_varW rfl) ev_int rr_neI)) (fun hit H3 s3 => ?_) fun miss H3 s3 => ?_
    · refine q_ret1 (P := Eq (pivD r)) (s3.base g1) (EV.eq (ev_var rfl).imm ?_) k
      have hit : ¬ r[i] = 0 := by simpa using hit
      have hf : pivM r = some i := by
        unfold pivM
        rw [List.findIdx?_eq_some_iff_getElem]
        refine ⟨hlt, by simpa using hit, fun j hj => ?_⟩
        have := hi j _ hj (List.getElem?_eq_getElem (by omega))
        simpa using this
      unfold pivD
      rw [hf]
    · refine q_next (kN () σ2 H3 (fun j y hj hy => ?_) (s3.less (.keep (.drop (.drop .nil)))))
      have miss : r[i] = 0 := by simpa using miss
      rcases Nat.lt_succ_iff_lt_or_eq.mp hj with q | q
      · exact hi j y q hy
      · subst q
        rw [hr] at hy
        cases hy
        exact miss
  · rintro items ⟨ds, rfl, rfl⟩ b hi σ2 H2 s2
    refine q_ret1 (P := Eq (pivD r)) s2 (EV.eq ev_non ?_) k
    have hf : pivM r = none := by
      unfold pivM
      rw [List.findIdx?_eq_none_iff]
      intro x hx
      obtain ⟨j, hj⟩ := List.mem_iff_getElem?.mp hx
      have hl : j < r.length := (List.getElem?_eq_some_iff.mp hj).1
      have := hi j x (by rw [enumD_len, List.length_map]; exact hl) hj
      simpa using this
    unfold pivD
    rw [hf]
end
end Wk
end
section
set_option Elab.async false
set_option linter.all false
set_option maxRecDepth 100000
set_option maxHeartbeats 4000000
set_option autoImplicit false
namespace Wk
open PySem L2 Ly Mx
/-! ### without, reduced -/
theorem _root_.Mx.Ok.small {p m : Nat} {r : List Int} (o : Mx.Ok p m r) (hp : p < 1000) : ∀ x ∈ r, x.natAbs < 2 ^ 64 := fun x hx => by
  have := o.rng x hx
  omega
def sp_without (K : PySem.W.Frag) (G : Ads) : Sp := spP K (α := (Nat × Nat) × List Int × Bool × List (List Int)) (fun a => [gr G a.1.1 a.1.2, rowD a.2.1, if a.2.2.1 then .lst (a.2.2.2.map rowD) else .tup (a.2.2.2.map rowD)])
  (fun a => a.1.1 < 1000 ∧ 0 < a.1.1 ∧ a.2.1.length ≤ 1000 ∧ a.2.2.2.length ≤ 1000 ∧ Mx.Ok a.1.1 a.2.1.length a.2.1 ∧ Ech a.1.1 a.2.1.length a.2.2.2) (fun a d => rowD (withoutM a.1.1 a.2.1 a.2.2.2) = d)
def sp_reduced (K : PySem.W.Frag) (G : Ads) : Sp := spP K (α := (Nat × Nat) × Nat × Bool × List (List Int)) (fun a => [gr G a.1.1 a.1.2, if a.2.2.1 then .lst (a.2.2.2.map rowD) else .tup (a.2.2.2.map rowD)])
  (fun a => a.1.1 < 1000 ∧ Pr a.1.1 ∧ a.2.1 ≤ 1000 ∧ a.2.2.2.length ≤ 1000 ∧ ∀ r ∈ a.2.2.2, Mx.Ok a.1.1 a.2.1 r) (fun a d => codeD (redM a.1.1 a.2.2.2) = d)
theorem isq_b (b : Bool) (ds : List Dt) : IsSq (if b then .lst ds else .tup ds) ds := by
  cases b
  · exact .tup ds
  · exact .lst ds
section
variable {P : Program} {w : World} {K : PySem.W.Frag} {mg : Str → Option Value} {base : Heap} {G : Ads} {f : Addr} {fd : FuncData}
variable {Z : Zn} {H0 : Hp} {L : Own} {Γ : Gam} {W : Hp → Addr → Prop} {E : XK} {t : TA} {te : TE} {p n m : Nat} {d : Dt}
theorem ev_without [Wd K Z L W] {r : List Int} {c : List (List Int)} (h : EVA K Z H0 L Γ (wW Z) t (Eq [gr G p n, rowD r, d])) (hd : IsSq d (c.map rowD)) (hp : p < 1000) (p0 : 0 < p) (hm : m ≤ 1000) (hc : c.length ≤ 1000) (o : Mx.Ok p m r) (ec : Ech p m c) : EV K Z H0 L Γ W (tCall (sp_without K G) [] E t) (Eq (rowD (withoutM p r c))) := by
  have hl := o.len
  subst hl
  cases hd with
  | lst => exact ev_call (x := ((p, n), r, true, c)) h ⟨hp, p0, hm, hc, o, ec⟩
  | tup => exact ev_call (x := ((p, n), r, false, c)) h ⟨hp, p0, hm, hc, o, ec⟩
theorem ev_reduced [Wd K Z L W] {c : List (List Int)} (h : EVA K Z H0 L Γ (wW Z) t (Eq [gr G p n, d])) (hd : IsSq d (c.map rowD)) (hp : p < 1000) (pr : Pr p) (hm : m ≤ 1000) (hc : c.length ≤ 1000) (o : ∀ r ∈ c, Mx.Ok p m r) : EV K Z H0 L Γ W (tCall (sp_reduced K G) [] E t) (Eq (codeD (redM p c))) := by
  cases hd with
  | lst => exact ev_call (x := ((p, n), m, true, c)) h ⟨hp, pr, hm, hc, o⟩
  | tup => exact ev_call (x := ((p, n), m, false, c)) h ⟨hp, pr, hm, hc, o⟩
/-- left[pivot(own)] -/
theorem at_row {r : List Int} {i : Nat} (h : i < r.length) : atI (r.map Dt.int) (i : Int) = some (.int (Mx.e r i)) := by
  refine ix_nat (by omega) ?_
  rw [Int.toNat_natCast, List.getElem?_map, List.getElem?_eq_getElem h, e_lt h]
  rfl
end
section
variable {P : Program} {w : World} {K : PySem.W.Frag} {mg : Str → Option Value} {base : Heap} {G : Ads} {f : Addr} {fd : FuncData}
theorem sc_without : FnScope ["ground", "row", "base", "left", "own"] ["ground", "row", "base"] (defScope (top 19)) := ⟨rfl, rfl, rfl, by decide +kernel, rfl, by decide +kernel, by decide +kernel⟩
theorem ok_without (F : Df K "without" "without" (top 19) f fd) (T : Txt K mg G) (c_subtracted : Cl P w K mg base 2 "subtracted" (sp_subtracted K G)) (c_scaled : Cl P w K mg base 2 "scaled" (sp_scaled K G)) (c_pivot : Cl P w K mg base 1 "pivot" (sp_pivot K G)) : FnOk P w K mg base CX0 3 f fd ["ground", "row", "base"] (sp_without K G) := by
  have sc := sc_without
  refine F.ok sc (fun vs H Q E h => spP_len h fun _ => rfl) (fun cdv A outer s H vs Q E hr h => ?_)
  refine ⟨_, PSs.nox (pss_cons (ps_set (i := 3) sc.nd rfl (Or.inl rfl) (pv 1)) (pss_cons (ps_for PassesOwn.never rfl (x_sq (K := K) (pv 2)) (pg_name (i := 4) sc.nd rfl (Or.inl rfl)) (pss_cons (ps_set (i := 3) sc.nd rfl (Or.inl rfl) (pe_cl c_subtracted hr (by decide) (by rfl) (pa_cons (pv 0) (pa_cons (pv 3) (pa_cons (pe_cl c_scaled hr (by decide) (by rfl) (pa_cons (pv 0) (pa_cons (pe_ix (x_ix (K := K)) (pv 3) (pe_cl c_pivot hr (by decide) (by rfl) (pa_cons (pv 4) pa_nil)) (fun _ _ => rfl)) (pa_cons (pv 4) pa_nil)))) pa_nil))))) pss_nil)) (pss_cons (ps_ret (pv 3)) pss_nil))), ?_⟩
  obtain ⟨⟨⟨p, n⟩, row, b, c⟩, ⟨hp, p0, hm, hc, o, ec⟩, hargs, k⟩ := h
  have st : At K z0 H [] [some (gr G p n), some (rowD row), some (if b then .lst (c.map rowD) else .tup (c.map rowD)), none, none] (L2.start ["ground", "row", "base", "left", "own"] vs) H := at_beg hargs rfl rfl
  have hp : p < 1000 := hp
  have p0 : 0 < p := p0
  have hm : row.length ≤ 1000 := hm
  have o : Mx.Ok p row.length row := o
  have ec : Ech p row.length c := ec
  refine q_asg st (ev_var rfl) fun d pd σ1 H1 s1 => ?_
  subst pd
  refine q_for (β := Unit) (I := fun _ i _ => True) (Lf := fun _ _ _ => []) (Γf := fun _ i _ => [some (gr G p n), some (rowD row), some (if b then .lst (c.map rowD) else .tup (c.map rowD)), some (rowD (withoutM p row (c.take i))), none]) (is := [4]) (es := fun d => [d]) s1 (it_sq (isq_b b _) (ev_var rfl)) (fun _ _ _ _ => gt_name) (fun _ _ _ => rfl) (fun _ _ => ⟨(), trivial, rfl, .keep (.keep (.keep (.keep (.keep .nil))))⟩) ?_ ?_
  · intro items pi i d _ hd _ H2 g2 σ2 H3 s2 N kN
    subst pi
    have hlt : i < c.length := by
      have := (List.getElem?_eq_some_iff.mp hd).1
      rw [List.length_map] at this
      exact this
    have hr : c[i]? = some c[i] := List.getElem?_eq_getElem hlt
    rw [List.getElem?_map, hr] at hd
    cases hd
    have tk : c.take (i + 1) = c.take i ++ [c[i]] := by rw [List.take_add_one, hr]; rfl
    have ol : Mx.Ok p row.length (withoutM p row (c.take i)) := Mx.ok_without p0 o fun r hr => (ec.ok r (List.mem_of_mem_take hr)).len
    have oo := ec.ok _ (List.getElem_mem hlt)
    obtain ⟨j, hj, _⟩ := ec.one _ (List.getElem_mem hlt)
    have jl : j < (withoutM p row (c.take i)).length := by rw [ol.len, ← oo.len]; exact hj.lt
    have pd : pivD c[i] = .int j := by unfold pivD; rw [piv_some.mpr hj]
    have hw : withoutM p row (c.take (i + 1)) = subM p (withoutM p row (c.take i)) (scM p (Mx.e (withoutM p row (c.take i)) j) c[i]) := by
      rw [tk]
      unfold withoutM
      rw [List.foldl_append]
      show stepM p _ _ = _
      unfold stepM
      rw [piv_some.mpr hj]
      rfl
    refine q_asg s2 (ev_subtracted (ea_cons (ev_varW rfl) (ea_cons (ev_varW rfl) (ea_cons (ev_scaled (ea_cons (ev_varW rfl) (ea_cons (ev_op (ev_varW rfl) (EV.eq (ev_pivot (ea_cons (ev_varW rfl) ea_nil)) pd) (rr_ixT (at_row jl))) (ea_cons (ev_varW rfl) ea_nil))) p0 ?_ ?_ (oo.small hp)) ea_nil))) p0 ?_) fun d pd σ4 H4 s4 => ?_
    · have := ol.e p0 j
      omega
    · rw [oo.len]; omega
    · rw [ol.len]; omega
    · subst pd
      refine q_next (kN () σ4 H4 trivial ?_)
      rw [hw]
      exact s4.less (.keep (.keep (.keep (.keep (.drop .nil)))))
  · intro items pi _ _ σ2 H2 s2
    subst pi
    rw [List.length_map, List.take_length] at s2
    exact q_ret1 (P := Eq (rowD (withoutM p row c))) s2 (ev_var rfl).imm k
theorem sc_reduced : FnScope ["ground", "rows", "found", "row", "left", "new", "own"] ["ground", "rows"] (defScope (top 20)) := ⟨rfl, rfl, rfl, by decide +kernel, rfl, by decide +kernel, by decide +kernel⟩
theorem ok_reduced (F : Df K "reduced" "reduced" (top 20) f fd) (T : Txt K mg G) (c_without : Cl P w K mg base 3 "without" (sp_without K G)) (c_pivot : Cl P w K mg base 1 "pivot" (sp_pivot K G)) (c_scaled : Cl P w K mg base 2 "scaled" (sp_scaled K G)) (c_Ground_inverse_of : Me P w K mg base 1 G.Ground "inverse_of" (sp_Ground_inverse_of K G)) (c_subtracted : Cl P w K mg base 2 "subtracted" (sp_subtracted K G)) : FnOk P w K mg base CX0 4 f fd ["ground", "rows"] (sp_reduced K G) := by
  have sc := sc_reduced
  refine F.ok sc (fun vs H Q E h => spP_len h fun _ => rfl) (fun cdv A outer s H vs Q E hr h => ?_)
  refine ⟨_, PSs.nox (pss_cons (ps_set (i := 2) sc.nd rfl (Or.inl rfl) (pe_lst pa_nil)) (pss_cons (ps_for PassesOwn.never rfl (x_sq (K := K) (pv 1)) (pg_name (i := 3) sc.nd rfl (Or.inl rfl)) (pss_cons (ps_set (i := 4) sc.nd rfl (Or.inl rfl) (pe_cl c_without hr (by decide) (by rfl) (pa_cons (pv 0) (pa_cons (pv 3) (pa_cons (pv 2) pa_nil))))) (pss_cons (ps_if (pt_cmpR op_notN (pe_cl c_pivot hr (by decide) (by rfl) (pa_cons (pv 4) pa_nil)) pe_non (nomark _)) (pss_cons (ps_set (i := 5) sc.nd rfl (Or.inr rfl) (pe_cl c_scaled hr (by decide) (by rfl) (pa_cons (pv 0) (pa_cons (pe_me c_Ground_inverse_of hr (by decide) (pv 0) (pa_cons (pe_ix (x_ix (K := K)) (pv 4) (pe_cl c_pivot hr (by decide) (by rfl) (pa_cons (pv 4) pa_nil)) (fun _ _ => rfl)) pa_nil)) (pa_cons (pv 4) pa_nil))))) (pss_cons (ps_setLc (i := 2) (own := [("own", 6)]) rfl sc.nd rfl rfl (sw_true rfl rfl rfl (by decide +kernel)) (x_sq (K := K) (pv 2)) (blkOk_by (by kernel_rfl)) (fun _ _ _ _ _ => (pg_name (i := 6) sc.nd rfl (by first | exact Or.inl rfl | exact Or.inr rfl))) (fun _ _ _ _ _ => pts_nil) (fun _ _ _ _ _ => (pe_cl c_subtracted hr (by decide) (by rfl) (pa_cons (pv 0) (pa_cons (pv 6) (pa_cons (pe_cl c_scaled hr (by decide) (by rfl) (pa_cons (pv 0) (pa_cons (pe_ix (x_ix (K := K)) (pv 6) (pe_cl c_pivot hr (by decide) (by rfl) (pa_cons (pv 5) pa_nil)) (fun _ _ => rfl)) (pa_cons (pv 5) pa_nil)))) pa_nil)))))) (pss_cons (ps_expr (x_bm (K := K) PySem.F.plainAttrs_list PySem.F.slot_list_append PySem.F.type_list_append mt_append (pv 2) (pa_cons (pv 5) pa_nil))) pss_nil))) pss_nil) pss_nil))) (pss_cons (ps_ret (pe_callTy (x_tuple (K := K)) (by rfl) T.f_tuple (by decide +kernel) (pa_cons (pe_sortedR (K := K) hr.units (by rfl) T.f_sorted (pa_cons (pv 2) pa_nil) (pk_cons pe_bl pk_nil)) pa_nil))) pss_nil))), ?_⟩
  obtain ⟨⟨⟨p, n⟩, m, b, rows⟩, ⟨hp, pr, hm, hc, o⟩, hargs, k⟩ := h
  have hp : p < 1000 := hp
  have pr : Pr p := pr
  have p0 : 0 < p := Nat.lt_of_lt_of_le (by decide) pr.two
  have hm : m ≤ 1000 := hm
  have hc : rows.length ≤ 1000 := hc
  have o : ∀ r ∈ rows, Mx.Ok p m r := o
  generalize hR : (if b then Dt.lst (rows.map rowD) else .tup (rows.map rowD)) = R
  have hq : IsSq R (rows.map rowD) := hR ▸ isq_b b _
  have st : At K z0 H [] [some (gr G p n), some R, none, none, none, none, none] (L2.start ["ground", "rows", "found", "row", "left", "new", "own"] vs) H := at_beg hargs (by rw [← hR]; rfl) rfl
  refine q_asg st (ev_lst ea_nil) fun d pd σ1 H1 s1 => ?_
  subst pd
  refine q_for (β := Unit) (I := fun _ i _ => True) (Lf := fun _ _ _ => []) (Γf := fun _ i _ => [some (gr G p n), some R, some (.lst (((rows.take i).foldl (addM p) []).map rowD)), none, none, none, none]) (is := [3]) (es := fun d => [d]) s1 (it_sq hq (ev_var rfl)) (fun _ _ _ _ => gt_name) (fun _ _ _ => rfl) (fun _ _ => ⟨(), trivial, rfl, .keep (.keep (.keep (.keep (.keep (.keep (.keep .nil))))))⟩) ?_ ?_
  · intro items pi i d _ hd _ H2 g2 σ2 H3 s2 N kN
    subst pi
    have hlt : i < rows.length := by
      have := (List.getElem?_eq_some_iff.mp hd).1
      rw [List.length_map] at this
      exact this
    have hr : rows[i]? = some rows[i] := List.getElem?_eq_getElem hlt
    rw [List.getElem?_map, hr] at hd
    cases hd
    have tk : rows.take (i + 1) = rows.take i ++ [rows[i]] := by rw [List.take_add_one, hr]; rfl
    have tk2 : (rows.take (i + 1)).foldl (addM p) [] = addM p ((rows.take i).foldl (addM p) []) rows[i] := by rw [tk, List.foldl_append]; rfl
    have ec : Ech p m ((rows.take i).foldl (addM p) []) := raw_ech' pr .nil fun r hr => o r (List.mem_of_mem_take hr)
    have fl : ((rows.take i).foldl (addM p) []).length ≤ 1000 := by
      have := len_raw' (p := p) (rows.take i) []
      rw [List.length_take] at this
      simp at this
      omega
    generalize (rows.take i).foldl (addM p) [] = found at *
    generalize hrow : rows[i] = row at *
    have oR : Mx.Ok p m row := by rw [← hrow]; exact o _ (List.getElem_mem hlt)
    have ol : Mx.Ok p m (withoutM p row found) := Mx.ok_without p0 oR fun r hr => (ec.ok r hr).len
    refine q_asg s2 (ev_without (ea_cons (ev_varW rfl) (ea_cons (ev_varW rfl) (ea_cons (ev_varW rfl) ea_nil))) (.lst _) hp p0 hm fl oR ec) fun d pd σ4 H4 s4 => ?_
    subst pd
    refine q_if s4 (et_B (W := wF) (ev_op (ev_pivot (ea_cons (ev_varW rfl) ea_nil)) ev_non rr_notN)) (fun hb H5 s5 => ?_) fun hb H5 s5 => ?_
    · cases q : pivM (withoutM p row found) with
      | none =>
        unfold pivD at hb
        rw [q] at hb
        cases hb
      | some j =>
        have hj := piv_some.mp q
        have pd : pivD (withoutM p row found) = .int j := by unfold pivD; rw [q]
        obtain ⟨x, x1, x2, x3, on, pn, oi⟩ := new_row pr ol hj
        have hx := add_some q
        rw [x1] at hx
        have hx : addM p found row = found.map (fun own => stepM p own (scM p x (withoutM p row found))) ++ [scM p x (withoutM p row found)] := hx
        have ej := ol.e p0 j
        refine q_asg s5 (ev_scaled (ea_cons (ev_varW rfl) (ea_cons (EV.eq (ev_ginv (ev_varW rfl) (ea_cons (ev_op (ev_varW rfl) (EV.eq (ev_pivot (ea_cons (ev_varW rfl) ea_nil)) pd) (rr_ixT (at_row hj.lt))) ea_nil) pr.two hp (by omega)) (by rw [x1]; rfl)) (ea_cons (ev_varW rfl) ea_nil))) p0 (by omega) (by rw [ol.len]; omega) (ol.small hp)) fun d pd2 σ6 H6 s6 => ?_
        subst pd2
        generalize hnew : scM p x (withoutM p row found) = new at *
        have pdn : pivD new = .int j := by unfold pivD; rw [piv_some.mpr pn]
        refine q_own s6 (ds := (found.map fun own => stepM p own new).map rowD) (EV.eq (ev_lcM (xs := found) (h := rowD) (is := [6]) (es := fun r => [rowD r]) (fn := fun own => rowD (stepM p own new)) (it_lst (N := Mt z0 []) (ev_var rfl)) (.inl fun _ => Iff.rfl) (by omega) (fun _ _ => gt_name) (by decide) fun own hown => ?_) (by rw [List.map_map]; rfl)) inferInstance fun l σ7 H7 nl s7 => ?_
        · have oo := ec.ok own hown
          refine EV.eq (ev_subtracted (ea_cons (ev_varW rfl) (ea_cons (ev_varW rfl) (ea_cons (ev_scaled (ea_cons (ev_varW rfl) (ea_cons (ev_op (ev_varW rfl) (EV.eq (ev_pivot (ea_cons (ev_varW rfl) ea_nil)) pdn) (rr_ixT (at_row (by rw [oo.len, ← on.len]; exact pn.lt)))) (ea_cons (ev_varW rfl) ea_nil))) p0 ?_ ?_ (on.small hp)) ea_nil))) p0 ?_) ?_
          · have := oo.e p0 j
            omega
          · rw [on.len]; omega
          · rw [oo.len]; omega
          · unfold stepM
            rw [piv_some.mpr pn]
            rfl
        · refine q_append (n := 0) s7 rfl rfl inferInstance (by rw [List.length_map, List.length_map]; omega) (P := Eq (rowD new)) (ev_var rfl) (fun d q => q ▸ inferInstance) fun d pd σ8 H8 s8 => ?_
          subst pd
          have s9 := At.freeze (i := 2) s8 nl rfl
          refine q_next (q_next (kN () σ8 H8 trivial ?_))
          rw [tk2, hx, List.map_append]
          exact s9.less (.keep (.keep (.keep (.drop (.drop (.drop (.keep .nil)))))))
    · cases q : pivM (withoutM p row found) with
      | some j =>
        unfold pivD at hb
        rw [q] at hb
        cases hb
      | none =>
        refine q_next (q_next (kN () σ4 H5 trivial ?_))
        rw [tk2, add_none q]
        exact s5.less (.keep (.keep (.keep (.drop (.drop (.keep (.keep .nil)))))))
  · intro items pi _ _ σ2 H2 s2
    subst pi
    rw [List.length_map, List.take_length] at s2
    refine q_ret1 (P := Eq (codeD (redM p rows))) s2 (ev_cb (ea_cons (ev_sortR (ea_cons (ev_varW rfl) ea_nil) (ea_cons ev_bl ea_nil) fun r hr => ?_) ea_nil) (rc_tuple (.lst _))) k
    have ec : Ech p m (rawM p rows) := raw_ech pr o
    obtain ⟨i, hi, _⟩ := ec.one r hr
    exact fun z => by rw [z] at hi; exact absurd hi.lt (Nat.not_lt_zero _)
end
end Wk
end
section
set_option Elab.async false
set_option linter.all false
set_option maxRecDepth 100000
set_option maxHeartbeats 4000000
set_option autoImplicit false
namespace Wk
open PySem L2 Ly Mx
/-! ### codes.py, meets.py -/
def inM (p n : Nat) (code : List (List Int)) (row : List Int) : Bool := decide (withoutM p row code = zeroM n)
def dblM (n : Nat) (one other : List (List Int)) : List (List Int) := one.map (fun r => r ++ r) ++ other.map (fun r => r ++ zeroM n)
def lateM (n : Nat) (rows : List (List Int)) : List (List Int) := rows.filter fun r => decide (n ≤ (pivM r).getD 0)
def commonM (p n : Nat) (one other : List (List Int)) : List (List Int) := redM p ((lateM n (redM p (dblM n one other))).map (·.drop n))
def joinedM (p : Nat) (one other : List (List Int)) : List (List Int) := redM p (one ++ other)
/-- a ground that all goes over -/
structure Gd (p n : Nat) : Prop where
  lt : p < 1000
  pr : Pr p
  nle : n ≤ 200
theorem Gd.pos {p n : Nat} (g : Gd p n) : 0 < p := Nat.lt_of_lt_of_le (by decide) g.pr.two
abbrev Rows (p n : Nat) (c : List (List Int)) : Prop := c.length ≤ 400 ∧ ∀ r ∈ c, Mx.Ok p n r
def sp_code_of (K : PySem.W.Frag) (G : Ads) : Sp := spP K (α := (Nat × Nat) × Bool × List (List Int)) (fun a => [gr G a.1.1 a.1.2, if a.2.1 then .lst (a.2.2.map rowD) else .tup (a.2.2.map rowD)])
  (fun a => Gd a.1.1 a.1.2 ∧ a.2.2.length ≤ 800 ∧ ∀ r ∈ a.2.2, Mx.Ok a.1.1 a.1.2 r) (fun a d => codeD (redM a.1.1 a.2.2) = d)
def sp_rest (K : PySem.W.Frag) (G : Ads) : Sp := spP K (α := (Nat × Nat) × List (List Int) × List Int) (fun a => [gr G a.1.1 a.1.2, codeD a.2.1, rowD a.2.2])
  (fun a => Gd a.1.1 a.1.2 ∧ a.2.1.length ≤ 400 ∧ Ech a.1.1 a.1.2 a.2.1 ∧ Mx.Ok a.1.1 a.1.2 a.2.2) (fun a d => rowD (withoutM a.1.1 a.2.2 a.2.1) = d)
def sp_is_in (K : PySem.W.Frag) (G : Ads) : Sp := spP K (α := (Nat × Nat) × List (List Int) × List Int) (fun a => [gr G a.1.1 a.1.2, codeD a.2.1, rowD a.2.2])
  (fun a => Gd a.1.1 a.1.2 ∧ a.2.1.length ≤ 400 ∧ Ech a.1.1 a.1.2 a.2.1 ∧ Mx.Ok a.1.1 a.1.2 a.2.2) (fun a d => .bl (inM a.1.1 a.1.2 a.2.1 a.2.2) = d)
def sp_is_within (K : PySem.W.Frag) (G : Ads) : Sp := spP K (α := (Nat × Nat) × List (List Int) × List (List Int)) (fun a => [gr G a.1.1 a.1.2, codeD a.2.1, codeD a.2.2])
  (fun a => Gd a.1.1 a.1.2 ∧ Rows a.1.1 a.1.2 a.2.1 ∧ a.2.2.length ≤ 400 ∧ Ech a.1.1 a.1.2 a.2.2) (fun a d => .bl (a.2.1.all fun r => inM a.1.1 a.1.2 a.2.2 r) = d)
def sp_common (K : PySem.W.Frag) (G : Ads) : Sp := spP K (α := (Nat × Nat) × List (List Int) × List (List Int)) (fun a => [gr G a.1.1 a.1.2, codeD a.2.1, codeD a.2.2])
  (fun a => Gd a.1.1 a.1.2 ∧ Rows a.1.1 a.1.2 a.2.1 ∧ Rows a.1.1 a.1.2 a.2.2) (fun a d => codeD (commonM a.1.1 a.1.2 a.2.1 a.2.2) = d)
def sp_joined (K : PySem.W.Frag) (G : Ads) : Sp := spP K (α := (Nat × Nat) × List (List Int) × List (List Int)) (fun a => [gr G a.1.1 a.1.2, codeD a.2.1, codeD a.2.2])
  (fun a => Gd a.1.1 a.1.2 ∧ Rows a.1.1 a.1.2 a.2.1 ∧ Rows a.1.1 a.1.2 a.2.2) (fun a d => codeD (joinedM a.1.1 a.2.1 a.2.2) = d)
theorem ok_dbl {p n : Nat} {one other : List (List Int)} (hp : 0 < p) (h1 : ∀ r ∈ one, Mx.Ok p n r) (h2 : ∀ r ∈ other, Mx.Ok p n r) : ∀ r ∈ dblM n one other, Mx.Ok p (2 * n) r := by
  intro r hr
  rcases List.mem_append.mp hr with q | q
  · obtain ⟨s, hs, rfl⟩ := List.mem_map.mp q
    have o := h1 s hs
    exact ⟨by rw [List.length_append, o.len]; omega, fun x hx => (List.mem_append.mp hx).elim (o.rng x) (o.rng x)⟩
  · obtain ⟨s, hs, rfl⟩ := List.mem_map.mp q
    have o := h2 s hs
    refine ⟨by rw [List.length_append, o.len]; unfold zeroM; rw [List.length_replicate]; omega, fun x hx => (List.mem_append.mp hx).elim (o.rng x) fun q => ?_⟩
    rw [List.eq_of_mem_replicate q]
    omega
theorem ok_late {p n : Nat} {rows : List (List Int)} (h : ∀ r ∈ rows, Mx.Ok p (2 * n) r) : ∀ r ∈ (lateM n rows).map (·.drop n), Mx.Ok p n r := by
  intro r hr
  obtain ⟨s, hs, rfl⟩ := List.mem_map.mp hr
  have o := h s (List.mem_filter.mp hs).1
  exact ⟨by rw [List.length_drop, o.len]; omega, fun x hx => o.rng x (List.mem_of_mem_drop hx)⟩
section
variable {P : Program} {w : World} {K : PySem.W.Frag} {mg : Str → Option Value} {base : Heap} {G : Ads} {f : Addr} {fd : FuncData}
variable {Z : Zn} {H0 : Hp} {L : Own} {Γ : Gam} {W : Hp → Addr → Prop} {E : XK} {t : TA} {te : TE} {p n m : Nat} {d : Dt} {one other : List (List Int)} {r : List Int}
theorem ev_code_of [Wd K Z L W] (h : EVA K Z H0 L Γ (wW Z) t (Eq [gr G p n, d])) (hd : IsSq d (one.map rowD)) (g : Gd p n) (hl : one.length ≤ 800) (ho : ∀ r ∈ one, Mx.Ok p n r) : EV K Z H0 L Γ W (tCall (sp_code_of K G) [] E t) (Eq (codeD (redM p one))) := by
  cases hd with
  | lst => exact ev_call (x := ((p, n), true, one)) h ⟨g, hl, ho⟩
  | tup => exact ev_call (x := ((p, n), false, one)) h ⟨g, hl, ho⟩
theorem ev_rest [Wd K Z L W] (h : EVA K Z H0 L Γ (wW Z) t (Eq [gr G p n, codeD one, rowD r])) (g : Gd p n) (hl : one.length ≤ 400) (ec : Ech p n one) (o : Mx.Ok p n r) : EV K Z H0 L Γ W (tCall (sp_rest K G) [] E t) (Eq (rowD (withoutM p r one))) := ev_call (x := ((p, n), one, r)) h ⟨g, hl, ec, o⟩
theorem ev_is_in [Wd K Z L W] (h : EVA K Z H0 L Γ (wW Z) t (Eq [gr G p n, codeD one, rowD r])) (g : Gd p n) (hl : one.length ≤ 400) (ec : Ech p n one) (o : Mx.Ok p n r) : EV K Z H0 L Γ W (tCall (sp_is_in K G) [] E t) (Eq (.bl (inM p n one r))) := ev_call (x := ((p, n), one, r)) h ⟨g, hl, ec, o⟩
theorem ev_is_within [Wd K Z L W] (h : EVA K Z H0 L Γ (wW Z) t (Eq [gr G p n, codeD one, codeD other])) (g : Gd p n) (h1 : Rows p n one) (hl : other.length ≤ 400) (ec : Ech p n other) : EV K Z H0 L Γ W (tCall (sp_is_within K G) [] E t) (Eq (.bl (one.all fun r => inM p n other r))) := ev_call (x := ((p, n), one, other)) h ⟨g, h1, hl, ec⟩
theorem ev_common [Wd K Z L W] (h : EVA K Z H0 L Γ (wW Z) t (Eq [gr G p n, codeD one, codeD other])) (g : Gd p n) (h1 : Rows p n one) (h2 : Rows p n other) : EV K Z H0 L Γ W (tCall (sp_common K G) [] E t) (Eq (codeD (commonM p n one other))) := ev_call (x := ((p, n), one, other)) h ⟨g, h1, h2⟩
theorem ev_joined [Wd K Z L W] (h : EVA K Z H0 L Γ (wW Z) t (Eq [gr G p n, codeD one, codeD other])) (g : Gd p n) (h1 : Rows p n one) (h2 : Rows p n other) : EV K Z H0 L Γ W (tCall (sp_joined K G) [] E t) (Eq (codeD (joinedM p one other))) := ev_call (x := ((p, n), one, other)) h ⟨g, h1, h2⟩
theorem cut_from {α : Type} {xs : List α} {n : Nat} (h : n ≤ xs.length) : cutD xs (some (n : Int)) none = xs.drop n := by
  unfold cutD
  have e1 : HT.sIx xs.length 0 (some (n : Int)) = n := by
    unfold HT.sIx
    simp
    rw [if_neg (by omega)]
    omega
  have e2 : HT.sIx xs.length xs.length none = xs.length := rfl
  rw [e1, e2]
  exact List.take_of_length_le (by rw [List.length_drop]; exact Nat.le_refl _)
end
section
variable {P : Program} {w : World} {K : PySem.W.Frag} {mg : Str → Option Value} {base : Heap} {G : Ads} {f : Addr} {fd : FuncData}
theorem sc_code_of : FnScope ["ground", "rows"] ["ground", "rows"] (defScope (top 24)) := ⟨rfl, rfl, rfl, by decide +kernel, rfl, by decide +kernel, by decide +kernel⟩
theorem ok_code_of (F : Df K "code_of" "code_of" (top 24) f fd) (T : Txt K mg G) (c_reduced : Cl P w K mg base 4 "reduced" (sp_reduced K G)) : FnOk P w K mg base CX0 5 f fd ["ground", "rows"] (sp_code_of K G) := by
  have sc := sc_code_of
  refine F.ok sc (fun vs H Q E h => spP_len h fun _ => rfl) (fun cdv A outer s H vs Q E hr h => ?_)
  refine ⟨_, PSs.nox (pss_cons (ps_ret (pe_cl c_reduced hr (by decide) (by rfl) (pa_cons (pv 0) (pa_cons (pv 1) pa_nil)))) pss_nil), ?_⟩
  obtain ⟨⟨⟨p, n⟩, b, rows⟩, ⟨g, hl, ho⟩, hargs, k⟩ := h
  have g : Gd p n := g
  have hl : rows.length ≤ 800 := hl
  generalize hR : (if b then Dt.lst (rows.map rowD) else .tup (rows.map rowD)) = R
  have hq : IsSq R (rows.map rowD) := hR ▸ isq_b b _
  have st : At K z0 H [] [some (gr G p n), some R] (L2.start ["ground", "rows"] vs) H := at_beg hargs (by rw [← hR]; rfl) rfl
  exact q_ret1 st (ev_reduced (ea_cons (ev_varW rfl) (ea_cons (ev_varW rfl) ea_nil)) hq g.lt g.pr (m := n) (by have := g.nle; omega) (by omega) ho) k
theorem sc_rest : FnScope ["ground", "code", "row"] ["ground", "code", "row"] (defScope (top 25)) := ⟨rfl, rfl, rfl, by decide +kernel, rfl, by decide +kernel, by decide +kernel⟩
theorem ok_rest (F : Df K "rest" "rest" (top 25) f fd) (T : Txt K mg G) (c_without : Cl P w K mg base 3 "without" (sp_without K G)) : FnOk P w K mg base CX0 4 f fd ["ground", "code", "row"] (sp_rest K G) := by
  have sc := sc_rest
  refine F.ok sc (fun vs H Q E h => spP_len h fun _ => rfl) (fun cdv A outer s H vs Q E hr h => ?_)
  refine ⟨_, PSs.nox (pss_cons (ps_ret (pe_cl c_without hr (by decide) (by rfl) (pa_cons (pv 0) (pa_cons (pv 2) (pa_cons (pv 1) pa_nil))))) pss_nil), ?_⟩
  obtain ⟨⟨⟨p, n⟩, c, r⟩, ⟨g, hl, ec, o⟩, hargs, k⟩ := h
  have g : Gd p n := g
  have hl : c.length ≤ 400 := hl
  have st : At K z0 H [] [some (gr G p n), some (codeD c), some (rowD r)] (L2.start ["ground", "code", "row"] vs) H := at_beg hargs rfl rfl
  exact q_ret1 st (ev_without (ea_cons (ev_varW rfl) (ea_cons (ev_varW rfl) (ea_cons (ev_varW rfl) ea_nil))) (.tup _) g.lt g.pos (m := n) (by have := g.nle; omega) (by omega) o ec) k
theorem sc_is_in : FnScope ["ground", "code", "row"] ["ground", "code", "row"] (defScope (top 26)) := ⟨rfl, rfl, rfl, by decide +kernel, rfl, by decide +kernel, by decide +kernel⟩
theorem ok_is_in (F : Df K "is_in" "is_in" (top 26) f fd) (T : Txt K mg G) (c_rest : Cl P w K mg base 4 "rest" (sp_rest K G)) (c_Ground_zero : Me P w K mg base 1 G.Ground "zero" (sp_Ground_zero K G)) : FnOk P w K mg base CX0 5 f fd ["ground", "code", "row"] (sp_is_in K G) := by
  have sc := sc_is_in
  refine F.ok sc (fun vs H Q E h => spP_len h fun _ => rfl) (fun cdv A outer s H vs Q E hr h => ?_)
  refine ⟨_, PSs.nox (pss_cons (ps_ret (pe_cmpR (x_eq (K := K) hr.units) (pe_cl c_rest hr (by decide) (by rfl) (pa_cons (pv 0) (pa_cons (pv 1) (pa_cons (pv 2) pa_nil)))) (pe_me0 c_Ground_zero hr (by decide) (pv 0)) (nomark _))) pss_nil), ?_⟩
  obtain ⟨⟨⟨p, n⟩, c, r⟩, ⟨g, hl, ec, o⟩, hargs, k⟩ := h
  have g : Gd p n := g
  have hl : c.length ≤ 400 := hl
  have st : At K z0 H [] [some (gr G p n), some (codeD c), some (rowD r)] (L2.start ["ground", "code", "row"] vs) H := at_beg hargs rfl rfl
  exact q_ret1 st (ev_op (ev_rest (ea_cons (ev_varW rfl) (ea_cons (ev_varW rfl) (ea_cons (ev_varW rfl) ea_nil))) g hl ec o) (ev_gzero (ev_varW rfl) (by have := g.nle; omega)) rr_eqR) k
theorem sc_is_within : FnScope ["ground", "one", "other", "row"] ["ground", "one", "other"] (defScope (top 27)) := ⟨rfl, rfl, rfl, by decide +kernel, rfl, by decide +kernel, by decide +kernel⟩
theorem ok_is_within (F : Df K "is_within" "is_within" (top 27) f fd) (T : Txt K mg G) (c_is_in : Cl P w K mg base 5 "is_in" (sp_is_in K G)) : FnOk P w K mg base CX0 6 f fd ["ground", "one", "other"] (sp_is_within K G) := by
  have sc := sc_is_within
  refine F.ok sc (fun vs H Q E h => spP_len h fun _ => rfl) (fun cdv A outer s H vs Q E hr h => ?_)
  refine ⟨_, PSs.nox (pss_cons (ps_ret (pe_callB (x_all (K := K)) (by rfl) T.f_all (by decide +kernel) (pa_cons (pe_lc (own := [("row", 3)]) rfl sc.nd (x_sq (K := K) (pv 1)) (blkOk_by (by kernel_rfl)) (fun _ _ _ _ _ => (pg_name (i := 3) sc.nd rfl (by first | exact Or.inl rfl | exact Or.inr rfl))) (fun _ _ _ _ _ => pts_nil) (fun _ _ _ _ _ => (pe_cl c_is_in hr (by decide) (by rfl) (pa_cons (pv 0) (pa_cons (pv 2) (pa_cons (pv 3) pa_nil)))))) pa_nil))) pss_nil), ?_⟩
  obtain ⟨⟨⟨p, n⟩, one, other⟩, ⟨g, h1, hl, ec⟩, hargs, k⟩ := h
  have g : Gd p n := g
  have hl : other.length ≤ 400 := hl
  have h1 : Rows p n one := h1
  have st : At K z0 H [] [some (gr G p n), some (codeD one), some (codeD other), none] (L2.start ["ground", "one", "other", "row"] vs) H := at_beg hargs rfl rfl
  refine q_ret1 st (EV.eq (ev_cb (ea_cons (EV.eq (ev_lcM (xs := one) (h := rowD) (is := [3]) (es := fun r => [rowD r]) (fn := fun r => .bl (inM p n other r)) (it_tup (N := Mt z0 []) (ev_var rfl)) (.inl fun _ => Iff.rfl) (by have := h1.1; omega) (fun _ _ => gt_name) (by decide) fun r hr => ?_) (d := Dt.lst (one.map fun r => .bl (inM p n other r))) (e := .lst ((one.map fun r => inM p n other r).map .bl)) (by rw [List.map_map]; rfl)) ea_nil) rc_all) ?_) k
  · exact ev_is_in (ea_cons (ev_varW rfl) (ea_cons (ev_varW rfl) (ea_cons (ev_varW rfl) ea_nil))) g hl ec (h1.2 r hr)
  · rw [List.all_map]
    rfl
theorem sc_joined : FnScope ["ground", "one", "other"] ["ground", "one", "other"] (defScope (top 30)) := ⟨rfl, rfl, rfl, by decide +kernel, rfl, by decide +kernel, by decide +kernel⟩
theorem ok_joined (F : Df K "joined" "joined" (top 30) f fd) (T : Txt K mg G) (c_code_of : Cl P w K mg base 5 "code_of" (sp_code_of K G)) : FnOk P w K mg base CX0 6 f fd ["ground", "one", "other"] (sp_joined K G) := by
  have sc := sc_joined
  refine F.ok sc (fun vs H Q E h => spP_len h fun _ => rfl) (fun cdv A outer s H vs Q E hr h => ?_)
  refine ⟨_, PSs.nox (pss_cons (ps_ret (pe_cl c_code_of hr (by decide) (by rfl) (pa_cons (pv 0) (pa_cons (pe_lst (x_star (K := K) (pv 1) (x_star (K := K) (pv 2) pa_nil))) pa_nil)))) pss_nil), ?_⟩
  obtain ⟨⟨⟨p, n⟩, one, other⟩, ⟨g, h1, h2⟩, hargs, k⟩ := h
  have g : Gd p n := g
  have h1 : Rows p n one := h1
  have h2 : Rows p n other := h2
  have st : At K z0 H [] [some (gr G p n), some (codeD one), some (codeD other)] (L2.start ["ground", "one", "other"] vs) H := at_beg hargs rfl rfl
  have l1 := h1.1
  have l2 := h2.1
  refine q_ret1 st (ev_code_of (one := one ++ other) (ea_cons (ev_varW rfl) (ea_cons (EV.eq (ev_lst (ea_star (.tup _) (ev_varW rfl) (ea_star (.tup _) (ev_varW rfl) ea_nil)) (by rw [List.length_append, List.length_append, List.length_map, List.length_map]; simp; omega)) ?_) ea_nil)) (.lst _) g (by rw [List.length_append]; omega) fun r hr => (List.mem_append.mp hr).elim (h1.2 r) (h2.2 r)) k
  rw [List.append_nil, List.map_append]
theorem sc_common : FnScope ["ground", "one", "other", "wide", "zero", "rows", "late", "row"] ["ground", "one", "other"] (defScope (top 29)) := ⟨rfl, rfl, rfl, by decide +kernel, rfl, by decide +kernel, by decide +kernel⟩
theorem ok_common (F : Df K "common" "common" (top 29) f fd) (T : Txt K mg G) (c_Ground_zero : Me P w K mg base 1 G.Ground "zero" (sp_Ground_zero K G)) (c_Ground__init_ : Ma P w K mg base 3 "Ground" G.Ground (sp_Ground__init_ K G)) (c_Ground_n : Me P w K mg base 1 G.Ground "n" (sp_Ground_n K G)) (c_Ground_p : Me P w K mg base 1 G.Ground "p" (sp_Ground_p K G)) (c_reduced : Cl P w K mg base 4 "reduced" (sp_reduced K G)) (c_pivot : Cl P w K mg base 1 "pivot" (sp_pivot K G)) (c_code_of : Cl P w K mg base 5 "code_of" (sp_code_of K G)) : FnOk P w K mg base CX0 6 f fd ["ground", "one", "other"] (sp_common K G) := by
  have sc := sc_common
  refine F.ok sc (fun vs H Q E h => spP_len h fun _ => rfl) (fun cdv A outer s H vs Q E hr h => ?_)
  refine ⟨_, PSs.nox (pss_cons (ps_asg (pe_tup (pa_cons (pe_ma c_Ground__init_ hr (by decide) (by rfl) (pa_cons (pe_me0 c_Ground_p hr (by decide) (pv 0)) (pa_cons (pe_op (x_mulV (K := K)) pe_int (pe_me0 c_Ground_n hr (by decide) (pv 0))) pa_nil))) (pa_cons (pe_me0 c_Ground_zero hr (by decide) (pv 0)) pa_nil))) (x_tup (K := K) (n := 2) rfl (pgs_cons (pg_name (i := 3) sc.nd rfl (Or.inl rfl)) (pgs_cons (pg_name (i := 4) sc.nd rfl (Or.inr rfl)) pgs_nil)))) (pss_cons (ps_set (i := 5) sc.nd rfl (Or.inl rfl) (pe_op (x_add (K := K)) (pe_lc (own := [("row", 7)]) rfl sc.nd (x_sq (K := K) (pv 1)) (blkOk_by (by kernel_rfl)) (fun _ _ _ _ _ => (pg_name (i := 7) sc.nd rfl (by first | exact Or.inl rfl | exact Or.inr rfl))) (fun _ _ _ _ _ => pts_nil) (fun _ _ _ _ _ => (pe_tup (x_star (K := K) (pv 7) (x_star (K := K) (pv 7) pa_nil))))) (pe_lc (own := [("row", 7)]) rfl sc.nd (x_sq (K := K) (pv 2)) (blkOk_by (by kernel_rfl)) (fun _ _ _ _ _ => (pg_name (i := 7) sc.nd rfl (by first | exact Or.inl rfl | exact Or.inr rfl))) (fun _ _ _ _ _ => pts_nil) (fun _ _ _ _ _ => (pe_tup (x_star (K := K) (pv 7) (x_star (K := K) (pv 4) pa_nil))))))) (pss_cons (ps_setLc (i := 6) (own := [("row", 7)]) rfl sc.nd rfl rfl (sw_true rfl rfl rfl (by decide +kernel)) (x_sq (K := K) (pe_cl c_reduced hr (by decide) (by rfl) (pa_cons (pv 3) (pa_cons (pv 5) pa_nil)))) (blkOk_by (by kernel_rfl)) (fun _ _ _ _ _ => (pg_name (i := 7) sc.nd rfl (by first | exact Or.inl rfl | exact Or.inr rfl))) (fun _ _ _ _ _ => (pts_one (pt_cmpR op_ge (pe_cl c_pivot hr (by decide) (by rfl) (pa_cons (pv 7) pa_nil)) (pe_me0 c_Ground_n hr (by decide) (pv 0)) (nomark _)))) (fun _ _ _ _ _ => (pv 7))) (pss_cons (ps_ret (pe_cl c_code_of hr (by decide) (by rfl) (pa_cons (pv 0) (pa_cons (pe_lc (own := [("row", 7)]) rfl sc.nd (x_sq (K := K) (pv 6)) (blkOk_by (by kernel_rfl)) (fun _ _ _ _ _ => (pg_name (i := 7) sc.nd rfl (by first | exact Or.inl rfl | exact Or.inr rfl))) (fun _ _ _ _ _ => pts_nil) (fun _ _ _ _ _ => (pe_slice (x_sl (K := K)) (pv 7) (po_some (pe_me0 c_Ground_n hr (by decide) (pv 0))) po_none))) pa_nil)))) pss_nil)))), ?_⟩
  obtain ⟨⟨⟨p, n⟩, one, other⟩, ⟨g, h1, h2⟩, hargs, k⟩ := h
  have g : Gd p n := g
  have h1 : Rows p n one := h1
  have h2 : Rows p n other := h2
  have st : At K z0 H [] [some (gr G p n), some (codeD one), some (codeD other), none, none, none, none, none] (L2.start ["ground", "one", "other", "wide", "zero", "rows", "late", "row"] vs) H := at_beg hargs rfl rfl
  have l1 := h1.1
  have l2 := h2.1
  have nle := g.nle
  have p0 := g.pos
  have plt := g.lt
  have zl : (zeroM n).length = n := List.length_replicate ..
  refine q_asgT (is := [3, 4]) (es := fun _ => [gr G p (2 * n), rowD (zeroM n)]) st (ev_tup (ea_cons (ev_make (x := ((p, 2 * n) : Nat × Nat)) (ea_cons (ev_gp (ev_varW rfl)) (ea_cons (EV.eq (ev_op ev_int (ev_gn (ev_varW rfl)) (rr_mulV (small_mul (by decide) (by omega)))) (by rw [Int.natCast_mul]; rfl)) ea_nil)) ⟨g.pr.two, plt, g.pr.no, by show 2 * n < 1000; omega⟩) (ea_cons (ev_gzero (ev_varW rfl) (by omega)) ea_nil))) (fun d q => q ▸ gt_tup2) fun d pd σ1 H1 s1 => ?_
  have od := ok_dbl (n := n) p0 h1.2 h2.2
  have ld : (dblM n one other).length ≤ 1000 := by unfold dblM; rw [List.length_append, List.length_map, List.length_map]; omega
  refine q_asg s1 (ev_op (d := .lst (one.map fun r => rowD (r ++ r))) (e := .lst (other.map fun r => rowD (r ++ zeroM n)))
    (ev_lcM (xs := one) (h := rowD) (is := [7]) (es := fun r => [rowD r]) (it_tup (N := Mt z0 []) (ev_var rfl)) (.inl fun _ => Iff.rfl) (by omega) (fun _ _ => gt_name) (by decide) fun r hr => ?_)
    (ev_lcM (xs := other) (h := rowD) (is := [7]) (es := fun r => [rowD r]) (it_tup (N := Mt z0 []) (ev_var rfl)) (.inl fun _ => Iff.rfl) (by omega) (fun _ _ => gt_name) (by decide) fun r hr => ?_) (rr_addL (by rw [List.length_map, List.length_map]; omega))) fun d pd2 σ2 H2 s2 => ?_
  · refine EV.eq (ev_tup (ea_star (.tup _) (ev_varW rfl) (ea_star (.tup _) (ev_varW rfl) ea_nil)) ?_) ?_
    · rw [List.length_append, List.length_append, List.length_map, (h1.2 r hr).len]; simp; omega
    · rw [List.append_nil, ← List.map_append]
  · refine EV.eq (ev_tup (ea_star (.tup _) (ev_varW rfl) (ea_star (.tup _) (ev_varW rfl) ea_nil)) ?_) ?_
    · rw [List.length_append, List.length_append, List.length_map, List.length_map, (h2.2 r hr).len, zl]; simp; omega
    · rw [List.append_nil, ← List.map_append]
  · subst pd2
    have ed : (one.map fun r => rowD (r ++ r)) ++ (other.map fun r => rowD (r ++ zeroM n)) = (dblM n one other).map rowD := by
      unfold dblM
      rw [List.map_append, List.map_map, List.map_map]
      rfl
    rw [ed] at s2
    have ec := red_ech g.pr od
    have lr : (redM p (dblM n one other)).length ≤ 1000 := Nat.le_trans (len_red _) ld
    refine q_asg s2 (EV.eq (ev_lc (xs := redM p (dblM n one other)) (h := rowD) (is := [7]) (es := fun r => [rowD r]) (p := fun r => decide (n ≤ (pivM r).getD 0)) (fn := rowD) (it_tup (N := Mt z0 []) (ev_reduced (ea_cons (ev_varW rfl) (ea_cons (ev_varW rfl) ea_nil)) (.lst _) plt g.pr (m := 2 * n) (by omega) ld od)) (.inl fun _ => Iff.rfl) (by omega) (fun _ _ => gt_name) (by decide) (fun r hr => ?_) fun r hr _ => (ev_var rfl).imm) (d := .lst (((redM p (dblM n one other)).filter fun r => decide (n ≤ (pivM r).getD 0)).map rowD)) (e := .lst ((lateM n (redM p (dblM n one other))).map rowD)) rfl) fun d pd3 σ3 H3 s3 => ?_
    · obtain ⟨i, hi, _⟩ := ec.one r hr
      have pdr : pivD r = .int i := by unfold pivD; rw [piv_some.mpr hi]
      refine EVT.eq (et_B (W := wF) (ev_op (EV.eq (ev_pivot (ea_cons (ev_varW rfl) ea_nil)) pdr) (ev_gn (ev_varW rfl)) rr_ge)) ?_
      rw [piv_some.mpr hi]
      exact decide_eq_decide.mpr (by simp)
    · subst pd3
      have ol := ok_late (fun r hr => ec.ok r hr)
      have ll : (lateM n (redM p (dblM n one other))).length ≤ 800 := by
        have h3 : (lateM n (redM p (dblM n one other))).length ≤ (redM p (dblM n one other)).length := List.length_filter_le _ _
        have h4 := len_red (p := p) (dblM n one other)
        have h5 : (dblM n one other).length ≤ 800 := by unfold dblM; rw [List.length_append, List.length_map, List.length_map]; omega
        omega
      refine q_ret1 s3 (ev_code_of (one := (lateM n (redM p (dblM n one other))).map fun r : List Int => r.drop n) (ea_cons (ev_varW rfl) (ea_cons (EV.eq (ev_lcM (xs := lateM n (redM p (dblM n one other))) (h := rowD) (is := [7]) (es := fun r => [rowD r]) (fn := fun r => rowD (r.drop n)) (it_lst (N := Mt z0 []) (ev_var rfl)) (.inl fun _ => Iff.rfl) (by omega) (fun _ _ => gt_name) (by decide) fun r hr => ?_) (by rw [List.map_map]; rfl)) ea_nil)) (.lst _) g (by rw [List.length_map]; exact ll) ol) k
      have orr := ec.ok r (List.mem_filter.mp hr).1
      refine EV.eq (ev_slT (ev_varW rfl) (eo_some (W := wF) (ev_gn (ev_varW rfl))) eo_none) ?_
      rw [cut_from (by rw [List.length_map, orr.len]; omega), ← List.map_drop]
end
end Wk
end
section
set_option Elab.async false
set_option linter.all false
set_option maxRecDepth 100000
set_option maxHeartbeats 4000000
set_option autoImplicit false
namespace Wk
open PySem L2 Ly Mx
/-! ### check_code .. nests -/
/-- a code as it must be -/
structure CodeOk (p n : Nat) (c : List (List Int)) : Prop where
  len : c.length ≤ n
  ok : ∀ r ∈ c, Mx.Ok p n r
  piv : ∀ (i : Nat) (r : List Int), c[i]? = some r → ∃ j, Pv r j ∧ Mx.e r j = 1 ∧ (∀ (k : Nat) (s : List Int), k < i → c[k]? = some s → Mx.e s j = 0) ∧ ∀ (k : Nat) (s : List Int) (b : Nat), k + 1 = i → c[k]? = some s → Pv s b → b < j
def sp_wrong_entry (K : PySem.W.Frag) (G : Ads) : Sp := spP K (α := (Nat × Nat) × List Int) (fun a => [gr G a.1.1 a.1.2, rowD a.2]) (fun a => Mx.Ok a.1.1 a.1.2 a.2) (fun _ d => .non = d)
def sp_check_code (K : PySem.W.Frag) (G : Ads) : Sp := spP K (α := (Nat × Nat) × List (List Int)) (fun a => [gr G a.1.1 a.1.2, codeD a.2]) (fun a => Gd a.1.1 a.1.2 ∧ CodeOk a.1.1 a.1.2 a.2) (fun _ d => .non = d)
def sp_code_fault (K : PySem.W.Frag) (G : Ads) : Sp := spP K (α := (Nat × Nat) × List (List Int)) (fun a => [gr G a.1.1 a.1.2, codeD a.2]) (fun a => Gd a.1.1 a.1.2 ∧ CodeOk a.1.1 a.1.2 a.2) (fun _ d => .non = d)
section
variable {P : Program} {w : World} {K : PySem.W.Frag} {mg : Str → Option Value} {base : Heap} {G : Ads} {f : Addr} {fd : FuncData}
theorem sc_wrong_entry : FnScope ["ground", "row", "column", "entry"] ["ground", "row"] (defScope (top 22)) := ⟨rfl, rfl, rfl, by decide +kernel, rfl, by decide +kernel, by decide +kernel⟩
theorem ok_wrong_entry (F : Df K "wrong_entry" "wrong_entry" (top 22) f fd) (T : Txt K mg G) (c_Ground_p : Me P w K mg base 1 G.Ground "p" (sp_Ground_p K G)) (c_is_number : Cl P w K mg base 1 "is_number" (sp_is_number K G)) : FnOk P w K mg base CX0 2 f fd ["ground", "row"] (sp_wrong_entry K G) := by
  have sc := sc_wrong_entry
  refine F.ok sc (fun vs H Q E h => spP_len h fun _ => rfl) (fun cdv A outer s H vs Q E hr h => ?_)
  refine ⟨_, PSs.nox (pss_cons (ps_for PassesOwn.never rfl (x_enum (K := K) (by rfl) T.f_enumerate (pa_cons (pv 1) pa_nil)) (x_tup (K := K) (n := 2) rfl (pgs_cons (pg_name (i := 2) sc.nd rfl (Or.inl rfl)) (pgs_cons (pg_name (i := 3) sc.nd rfl (Or.inl rfl)) pgs_nil))) (pss_cons (ps_if (PW.pt (pw_or (pt_not (pt_val (pe_cl c_is_number hr (by decide) (by rfl) (pa_cons (pv 3) pa_nil)))) (pw_or1 (pt_cmpR op_ge (pv 3) (pe_me0 c_Ground_p hr (by decide) (pv 0)) (nomark _))))) (pss_cons (ps_ret (pv 2)) pss_nil) pss_nil) pss_nil)) (pss_cons (ps_ret pe_non) pss_nil)), ?_⟩
  obtain ⟨⟨⟨p, n⟩, r⟩, o, hargs, k⟩ := h
  have o : Mx.Ok p n r := o
  have st : At K z0 H [] [some (gr G p n), some (rowD r), none, none] (L2.start ["ground", "row", "column", "entry"] vs) H := at_beg hargs rfl rfl
  refine q_for (β := Unit) (I := fun _ i _ => True) (Lf := fun _ _ _ => []) (Γf := fun _ _ _ => [some (gr G p n), some (rowD r), none, none]) (is := [2, 3]) (es := fun d => match d with | .tup [a, b] => [a, b] | _ => [.non, .non]) st
    (it_enum (PL := Eq (r.map .int)) fun σ H a Q q => ea_cons (ev_var rfl) ea_nil σ H a Q fun ds vs H' pd => q ds vs H' ⟨_, _, pd.symm, .tup _, rfl⟩) ?_ (fun _ _ _ => rfl) (fun _ _ => ⟨(), trivial, rfl, .keep (.keep (.keep (.keep .nil)))⟩) ?_ ?_
  · rintro items ⟨ds, rfl, rfl⟩ d hd
    obtain ⟨i, hi, rfl⟩ := List.mem_map.mp hd
    exact gt_tup2
  · rintro items ⟨ds, rfl, rfl⟩ i d b hd hi H1 g1 σ2 H2 s2 N kN
    have hlt : i < r.length := by
      have := (List.getElem?_eq_some_iff.mp hd).1
      rw [enumD_len, List.length_map] at this
      exact this
    have hr : r[i]? = some r[i] := List.getElem?_eq_getElem hlt
    rw [enumD_get (d := .int r[i]) (by rw [List.getElem?_map, hr]; rfl)] at hd
    cases hd
    have rng := o.rng _ (List.getElem_mem hlt)
    refine q_if s2 (EVT.eq (c := false) (et_or (b := false) (c := false) (EVT.eq (et_not (et_test (W := wF) (ev_isnum (d := .int r[i]) (ea_cons (ev_varW rfl) ea_nil)))) (by simp [isNum]; exact rng.1)) fun _ => EVT.eq (et_B (W := wF) (ev_op (ev_varW rfl) (ev_gp (ev_varW rfl)) rr_ge)) (by simp; exact rng.2)) rfl) (fun z => nomatch z) fun _ H3 s3 => ?_
    exact q_next (kN () σ2 H3 trivial (s3.less (.keep (.keep (.drop (.drop .nil))))))
  · rintro items ⟨ds, rfl, rfl⟩ b hi σ2 H2 s2
    exact q_ret1 (P := Eq .non) s2 ev_non k
end
section
variable {P : Program} {w : World} {K : PySem.W.Frag} {mg : Str → Option Value} {base : Heap} {G : Ads} {f : Addr} {fd : FuncData}
variable {Z : Zn} {H0 : Hp} {L : Own} {Γ : Gam} {W : Hp → Addr → Prop} {E : XK} {t : TA} {te : TE} {p n m : Nat} {d : Dt} {c : List (List Int)} {r : List Int}
theorem ev_wrong_entry [Wd K Z L W] (h : EVA K Z H0 L Γ (wW Z) t (Eq [gr G p n, rowD r])) (o : Mx.Ok p n r) : EV K Z H0 L Γ W (tCall (sp_wrong_entry K G) [] E t) (Eq .non) := ev_call (x := ((p, n), r)) h o
theorem ev_check_code [Wd K Z L W] (h : EVA K Z H0 L Γ (wW Z) t (Eq [gr G p n, codeD c])) (g : Gd p n) (o : CodeOk p n c) : EV K Z H0 L Γ W (tCall (sp_check_code K G) [] E t) (Eq .non) := ev_call (x := ((p, n), c)) h ⟨g, o⟩
theorem ev_code_fault [Wd K Z L W] (h : EVA K Z H0 L Γ (wW Z) t (Eq [gr G p n, codeD c])) (g : Gd p n) (o : CodeOk p n c) : EV K Z H0 L Γ W (tCall (sp_code_fault K G) [] E t) (Eq .non) := ev_call (x := ((p, n), c)) h ⟨g, o⟩
theorem cut_to {α : Type} {xs : List α} {n : Nat} (h : n ≤ xs.length) : cutD xs none (some (n : Int)) = xs.take n := by
  unfold cutD
  have e1 : HT.sIx xs.length xs.length (some (n : Int)) = n := by
    unfold HT.sIx
    simp
    rw [if_neg (by omega)]
    omega
  have e2 : HT.sIx xs.length 0 none = 0 := rfl
  rw [e1, e2]
  rfl
end
section
variable {P : Program} {w : World} {K : PySem.W.Frag} {mg : Str → Option Value} {base : Heap} {G : Ads} {f : Addr} {fd : FuncData}
theorem sc_check_code : FnScope ["ground", "value", "place", "row", "column", "here", "other"] ["ground", "value"] (defScope (top 23)) := ⟨rfl, rfl, rfl, by decide +kernel, rfl, by decide +kernel, by decide +kernel⟩
theorem ok_check_code (F : Df K "check_code" "check_code" (top 23) f fd) (T : Txt K mg G) (c_Ground_n : Me P w K mg base 1 G.Ground "n" (sp_Ground_n K G)) (c_wrong_entry : Cl P w K mg base 2 "wrong_entry" (sp_wrong_entry K G)) (c_pivot : Cl P w K mg base 1 "pivot" (sp_pivot K G)) : FnOk P w K mg base CX0 3 f fd ["ground", "value"] (sp_check_code K G) := by
  have sc := sc_check_code
  refine F.ok sc (fun vs H Q E h => spP_len h fun _ => rfl) (fun cdv A outer s H vs Q E hr h => ?_)
  refine ⟨_, PSs.nox (pss_cons (ps_if (PW.pt (pw_or (pt_not (pt_val (pe_callB (x_isi (K := K)) (by rfl) T.f_isinstance (by decide +kernel) (pa_cons (pv 1) (pa_cons (pe_bltn (v := .ty "tuple") (by rfl) T.f_tuple (by decide +kernel) rfl) pa_nil))))) (pw_or1 (pt_cmpR op_gt (pe_callB (x_len (K := K)) (by rfl) T.f_len PySem.boot_len (pa_cons (pv 1) pa_nil)) (pe_me0 c_Ground_n hr (by decide) (pv 0)) (nomark _))))) pss_never pss_nil) (pss_cons (ps_for PassesOwn.never rfl (x_enum (K := K) (by rfl) T.f_enumerate (pa_cons (pv 1) pa_nil)) (x_tup (K := K) (n := 2) rfl (pgs_cons (pg_name (i := 2) sc.nd rfl (Or.inl rfl)) (pgs_cons (pg_name (i := 3) sc.nd rfl (Or.inl rfl)) pgs_nil))) (pss_cons (ps_if (PW.pt (pw_or (pt_not (pt_val (pe_callB (x_isi (K := K)) (by rfl) T.f_isinstance (by decide +kernel) (pa_cons (pv 3) (pa_cons (pe_bltn (v := .ty "tuple") (by rfl) T.f_tuple (by decide +kernel) rfl) pa_nil))))) (pw_or1 (pt_cmpR (x_ne (K := K) hr.units) (pe_callB (x_len (K := K)) (by rfl) T.f_len PySem.boot_len (pa_cons (pv 3) pa_nil)) (pe_me0 c_Ground_n hr (by decide) (pv 0)) (nomark _))))) pss_never pss_nil) (pss_cons (ps_set (i := 4) sc.nd rfl (Or.inl rfl) (pe_cl c_wrong_entry hr (by decide) (by rfl) (pa_cons (pv 0) (pa_cons (pv 3) pa_nil)))) (pss_cons (ps_if (pt_cmpR op_notN (pv 4) pe_non (nomark _)) pss_never pss_nil) pss_nil)))) (pss_cons (ps_for PassesOwn.never rfl (x_enum (K := K) (by rfl) T.f_enumerate (pa_cons (pv 1) pa_nil)) (x_tup (K := K) (n := 2) rfl (pgs_cons (pg_name (i := 2) sc.nd rfl (Or.inl rfl)) (pgs_cons (pg_name (i := 3) sc.nd rfl (Or.inl rfl)) pgs_nil))) (pss_cons (ps_set (i := 5) sc.nd rfl (Or.inr rfl) (pe_cl c_pivot hr (by decide) (by rfl) (pa_cons (pv 3) pa_nil))) (pss_cons (ps_if (PW.pt (pw_or (pt_cmpR op_isN (pv 5) pe_non (nomark _)) (pw_or (pt_cmpR (x_ne (K := K) hr.units) (pe_ix (x_ix (K := K)) (pv 3) (pv 5) (fun _ _ => rfl)) pe_int (nomark _)) (pw_or1 (pt_val (pe_callB (x_any (K := K)) (by rfl) T.f_any (by decide +kernel) (pa_cons (pe_lc (own := [("other", 6)]) rfl sc.nd (x_sq (K := K) (pe_slice (x_sl (K := K)) (pv 1) po_none (po_some (pv 2)))) (blkOk_by (by kernel_rfl)) (fun _ _ _ _ _ => (pg_name (i := 6) sc.nd rfl (by first | exact Or.inl rfl | exact Or.inr rfl))) (fun _ _ _ _ _ => pts_nil) (fun _ _ _ _ _ => (pe_cmpR (x_ne (K := K) hr.units) (pe_ix (x_ix (K := K)) (pv 6) (pv 5) (fun _ _ => rfl)) pe_int (nomark _)))) pa_nil))))))) pss_never pss_nil) (pss_cons (ps_if (PW.pt (pw_and (pt_cmpR op_gt (pv 2) pe_int (nomark _)) (pw_and1 (pt_cmpR op_ge (pe_cl c_pivot hr (by decide) (by rfl) (pa_cons (pe_ix (x_ix (K := K)) (pv 1) (pe_op op_sub (pv 2) pe_int) (fun _ _ => rfl)) pa_nil)) (pv 5) (nomark _))))) pss_never pss_nil) pss_nil)))) pss_nil))), ?_⟩
  obtain ⟨⟨⟨p, n⟩, c⟩, ⟨g, o⟩, hargs, k⟩ := h
  have g : Gd p n := g
  have o : CodeOk p n c := o
  have nle := g.nle
  have cl := o.len
  have st : At K z0 H [] [some (gr G p n), some (codeD c), none, none, none, none, none] (L2.start ["ground", "value", "place", "row", "column", "here", "other"] vs) H := at_beg hargs rfl rfl
  have ty : ∀ {d : Dt} {b : Bool} {Γ : Gam} {H1 : Hp} {i : Nat}, d.cls = some "tuple" → Γ[i]? = some (some d) → EVT K z0 H1 [] Γ (tTest (tCB (rIsi K) (tCons (tVar i) (tCons (tC (.ty "tuple")) tNil)))) (Eq true) := fun hc hi =>
    et_test (W := wF) (ev_cb (ea_cons (ev_varW hi) (ea_cons ev_ty ea_nil)) (rc_isi hc (by decide +kernel)))
  refine q_if st (EVT.eq (c := false) (et_or (b := false) (c := false) (et_not (ty (b := true) (d := codeD c) rfl rfl)) fun _ => EVT.eq (et_B (W := wF) (ev_op (ev_cb (ea_cons (ev_varW rfl) ea_nil) (rc_len (.tup _))) (ev_gn (ev_varW rfl)) rr_gt)) (by simp; omega)) rfl) (fun z => nomatch z) fun _ H1 s1 => ?_
  refine q_next (q_for (β := Unit) (I := fun _ i _ => True) (Lf := fun _ _ _ => []) (Γf := fun _ _ _ => [some (gr G p n), some (codeD c), none, none, none, none, none]) (is := [2, 3]) (es := fun d => match d with | .tup [a, b] => [a, b] | _ => [.non, .non]) s1
    (it_enum (PL := Eq (c.map rowD)) fun σ H a Q q => ea_cons (ev_var rfl) ea_nil σ H a Q fun ds vs H' pd => q ds vs H' ⟨_, _, pd.symm, .tup _, rfl⟩) ?_ (fun _ _ _ => rfl) (fun _ _ => ⟨(), trivial, rfl, .keep (.keep (.keep (.keep (.keep (.keep (.keep .nil))))))⟩) ?_ ?_)
  · rintro items ⟨ds, rfl, rfl⟩ d hd
    obtain ⟨i, hi, rfl⟩ := List.mem_map.mp hd
    exact gt_tup2
  · rintro items ⟨ds, rfl, rfl⟩ i d b hd hi H2 g2 σ2 H3 s2 N kN
    have hlt : i < c.length := by
      have := (List.getElem?_eq_some_iff.mp hd).1
      rw [enumD_len, List.length_map] at this
      exact this
    have hr : c[i]? = some c[i] := List.getElem?_eq_getElem hlt
    rw [enumD_get (d := rowD c[i]) (by rw [List.getElem?_map, hr]; rfl)] at hd
    cases hd
    have oo := o.ok _ (List.getElem_mem hlt)
    refine q_if s2 (EVT.eq (c := false) (et_or (b := false) (c := false) (et_not (ty (b := true) (d := rowD c[i]) rfl rfl)) fun _ => EVT.eq (et_B (W := wF) (ev_op (ev_cb (ea_cons (ev_varW rfl) ea_nil) (rc_len (.tup _))) (ev_gn (ev_varW rfl)) rr_neI)) (by rw [List.length_map, oo.len]; simp)) rfl) (fun z => nomatch z) fun _ H4 s4 => ?_
    refine q_next (q_asg s4 (ev_wrong_entry (ea_cons (ev_varW rfl) (ea_cons (ev_varW rfl) ea_nil)) oo) fun d pd σ5 H5 s5 => ?_)
    subst pd
    refine q_if s5 (EVT.eq (c := false) (et_B (W := wF) (ev_op (ev_varW rfl) ev_non rr_notN)) rfl) (fun z => nomatch z) fun _ H6 s6 => ?_
    exact q_next (q_next (kN () σ5 H6 trivial (s6.less (.keep (.keep (.drop (.drop (.drop (.keep (.keep .nil))))))))))
  · rintro items ⟨ds, rfl, rfl⟩ b hi σ2 H2 s2
    refine q_for (β := Unit) (I := fun _ i _ => True) (Lf := fun _ _ _ => []) (Γf := fun _ _ _ => [some (gr G p n), some (codeD c), none, none, none, none, none]) (is := [2, 3]) (es := fun d => match d with | .tup [a, b] => [a, b] | _ => [.non, .non]) s2
      (it_enum (PL := Eq (c.map rowD)) fun σ H a Q q => ea_cons (ev_var rfl) ea_nil σ H a Q fun ds vs H' pd => q ds vs H' ⟨_, _, pd.symm, .tup _, rfl⟩) ?_ (fun _ _ _ => rfl) (fun _ _ => ⟨(), trivial, rfl, .keep (.keep (.keep (.keep (.keep (.keep (.keep .nil))))))⟩) ?_ ?_
    · rintro items ⟨ds, rfl, rfl⟩ d hd
      obtain ⟨i, hi, rfl⟩ := List.mem_map.mp hd
      exact gt_tup2
    · rintro items ⟨ds, rfl, rfl⟩ i d b hd hi H2 g2 σ2 H3 s2 N kN
      have hlt : i < c.length := by
        have := (List.getElem?_eq_some_iff.mp hd).1
        rw [enumD_len, List.length_map] at this
        exact this
      have hr : c[i]? = some c[i] := List.getElem?_eq_getElem hlt
      rw [enumD_get (d := rowD c[i]) (by rw [List.getElem?_map, hr]; rfl)] at hd
      cases hd
      have oo := o.ok _ (List.getElem_mem hlt)
      obtain ⟨j, hj, j1, j2, j3⟩ := o.piv i _ hr
      have pd : pivD c[i] = .int j := by unfold pivD; rw [piv_some.mpr hj]
      refine q_asg s2 (EV.eq (ev_pivot (W := wF) (ea_cons (ev_varW rfl) ea_nil)) pd).imm fun d pd2 σ4 H4 s4 => ?_
      subst pd2
      refine q_if s4 (EVT.eq (c := false) (et_or (b := false) (c := false) (EVT.eq (et_B (W := wF) (ev_op (ev_varW rfl) ev_non rr_isN)) rfl) fun _ => et_or (b := false) (c := false) (EVT.eq (et_B (W := wF) (ev_op (ev_op (ev_varW rfl) (ev_varW rfl) (rr_ixT (at_row hj.lt))) ev_int rr_neI)) (by rw [j1]; rfl)) fun _ => ?_) rfl) (fun z => nomatch z) fun _ H5 s5 => ?_
      · refine EVT.eq (et_test (W := wF) (ev_cb (ea_cons (EV.eq (ev_lcM (xs := c.take i) (h := rowD) (is := [6]) (es := fun r => [rowD r]) (fn := fun r => .bl (!decide (Mx.e r j = 0))) (it_tup (N := Mt z0 []) (EV.eq (ev_slT (ev_varW rfl) eo_none (eo_some (ev_varW rfl))) (by rw [cut_to (n := i) (by rw [List.length_map]; omega), List.map_take]))) (.inl fun _ => Iff.rfl) (by rw [List.length_take]; omega) (fun _ _ => gt_name) (by decide) fun r hr => ?_) (e := .lst ((c.take i).map (fun r => !decide (Mx.e r j = 0)) |>.map .bl)) (by rw [List.map_map]; rfl)) ea_nil) rc_any)) ?_
        · have orr := o.ok r (List.mem_of_mem_take hr)
          exact ev_op (ev_op (ev_varW rfl) (ev_varW rfl) (rr_ixT (at_row (by rw [orr.len, ← oo.len]; exact hj.lt)))) ev_int rr_neI
        · rw [List.any_map, List.any_eq_false]
          intro r hr
          obtain ⟨k, hk, hkr⟩ := List.getElem_of_mem hr
          have hk2 : k < i := by rw [List.length_take] at hk; omega
          have : c[k]? = some r := by rw [← hkr, List.getElem_take]; exact List.getElem?_eq_getElem _
          have := j2 k r hk2 this
          simp [this]
      · refine q_next (q_if s5 (EVT.eq (c := false) (et_and (b := decide (i > 0)) (c := false) (EVT.eq (et_B (W := wF) (ev_op (ev_varW rfl) ev_int rr_gt)) (decide_eq_decide.mpr (by simp))) fun hi0 => ?_) (by simp)) (fun z => nomatch z) fun _ H6 s6 => ?_)
        · have hi0 : 0 < i := of_decide_eq_true hi0
          have hl2 : i - 1 < c.length := by omega
          have hr2 : c[i - 1]? = some c[i - 1] := List.getElem?_eq_getElem hl2
          obtain ⟨b, hb, _, _, _⟩ := o.piv (i - 1) _ hr2
          have pdb : pivD c[i - 1] = .int b := by unfold pivD; rw [piv_some.mpr hb]
          have hbj := j3 (i - 1) _ b (by omega) hr2 hb
          refine EVT.eq (et_B (W := wF) (ev_op (EV.eq (ev_pivot (ea_cons (ev_op (ev_varW rfl) (ev_op (ev_varW rfl) ev_int rr_sub) (rr_ixT (d := rowD c[i - 1]) (ix_nat (by omega) ?_))) ea_nil)) pdb) (ev_varW rfl) rr_ge)) (by simp; exact hbj)
          rw [show ((i : Int) - 1).toNat = i - 1 by omega, List.getElem?_map, hr2]
          rfl
        · exact q_next (q_next (kN () σ4 H6 trivial (s6.less (.keep (.keep (.drop (.drop (.keep (.drop (.keep .nil))))))))))
    · rintro items ⟨ds, rfl, rfl⟩ b hi σ2 H2 s2
      exact k _ _ _ rfl (s2.ex0 fun _ q => nomatch q) .non
theorem sc_code_fault : FnScope ["ground", "value", "error"] ["ground", "value"] (defScope (top 32)) := ⟨rfl, rfl, rfl, by decide +kernel, rfl, by decide +kernel, by decide +kernel⟩
theorem ok_code_fault (F : Df K "code_fault" "code_fault" (top 32) f fd) (T : Txt K mg G) (c_check_code : Cl P w K mg base 3 "check_code" (sp_check_code K G)) : FnOk P w K mg base CX0 4 f fd ["ground", "value"] (sp_code_fault K G) := by
  have sc := sc_code_fault
  refine F.ok sc (fun vs H Q E h => spP_len h fun _ => rfl) (fun cdv A outer s H vs Q E hr h => ?_)
  refine ⟨_, PSs.nox (pss_cons (ps_tryN (pss_cons (ps_expr (pe_cl c_check_code hr (by decide) (by rfl) (pa_cons (pv 0) (pa_cons (pv 1) pa_nil)))) pss_nil)) (pss_cons (ps_ret pe_non) pss_nil)), ?_⟩
  obtain ⟨⟨⟨p, n⟩, c⟩, ⟨g, o⟩, hargs, k⟩ := h
  have st : At K z0 H [] [some (gr G p n), some (codeD c), none] (L2.start ["ground", "value", "error"] vs) H := at_beg hargs rfl rfl
  refine q_drop (D := { nx := _, rt := Q, bk := _, ct := _ }) st (ev_check_code (W := wF) (ea_cons (ev_varW rfl) (ea_cons (ev_varW rfl) ea_nil)) g o) fun d pd H1 s1 => ?_
  exact q_ret1 (P := Eq .non) s1 ev_non k
end
end Wk
end
section
set_option Elab.async false
set_option linter.all false
set_option maxRecDepth 100000
set_option maxHeartbeats 4000000
set_option autoImplicit false
namespace Wk
open PySem L2 Ly Mx
theorem CodeOk.inc {p n : Nat} {c : List (List Int)} (o : CodeOk p n c) {k : Nat} : ∀ {d : Nat} {r s : List Int} {a b : Nat}, c[k]? = some r → c[k + d + 1]? = some s → Pv r a → Pv s b → a < b
  | 0, r, s, a, b, hr, hs, ha, hb => by
    obtain ⟨j, hj, _, _, j3⟩ := o.piv _ s hs
    rw [hb.uniq hj]
    exact j3 k r a rfl hr ha
  | d + 1, r, s, a, b, hr, hs, ha, hb => by
    have hl : k + d + 1 < c.length := Nat.lt_trans (Nat.lt_succ_self _) (List.getElem?_eq_some_iff.mp hs).1
    have hm : c[k + d + 1]? = some c[k + d + 1] := List.getElem?_eq_getElem hl
    obtain ⟨t, ht, _⟩ := o.piv _ _ hm
    obtain ⟨j, hj, _, _, j3⟩ := o.piv _ s hs
    have h1 := CodeOk.inc o (d := d) hr hm ha ht
    have h2 := j3 (k + d + 1) _ t rfl hm ht
    rw [hb.uniq hj]
    omega
theorem CodeOk.ech {p n : Nat} {c : List (List Int)} (o : CodeOk p n c) : Ech p n c := by
  refine ⟨o.ok, fun r hr => ?_, ?_⟩
  · obtain ⟨i, hi⟩ := List.mem_iff_getElem?.mp hr
    obtain ⟨j, hj, j1, _⟩ := o.piv i r hi
    exact ⟨j, hj, j1⟩
  · rw [List.pairwise_iff_getElem]
    intro i k hi hk hik
    have gi : c[i]? = some c[i] := List.getElem?_eq_getElem hi
    have gk : c[k]? = some c[k] := List.getElem?_eq_getElem hk
    refine ⟨fun a ha => ?_, fun b hb => ?_⟩
    · obtain ⟨b, hb, _⟩ := o.piv k _ gk
      have : a < b := CodeOk.inc o (k := i) (d := k - i - 1) gi (by rw [show i + (k - i - 1) + 1 = k by omega]; exact gk) ha hb
      exact hb.2 a this
    · obtain ⟨j, hj, _, j2, _⟩ := o.piv k _ gk
      rw [hb.uniq hj]
      exact j2 i _ hik gi
abbrev Code := List (List Int)
/-- the codes of a nest -/
structure FlagOk (p n : Nat) (cs : List Code) : Prop where
  len : cs.length = n - 1
  code : ∀ (k : Nat) (c : Code), cs[k]? = some c → CodeOk p n c ∧ c.length = k + 1
  within : ∀ (k : Nat) (b c : Code), cs[k]? = some b → cs[k + 1]? = some c → b.all (fun r => inM p n c r) = true
def nestD (G : Ads) (p n : Nat) (cs : List Code) : Dt := .ins G.Nest [("own_ground", gr G p n), ("own_codes", .tup (cs.map codeD))]
instance (G : Ads) (p n : Nat) (cs : List Code) : Imm (nestD G p n cs) := by unfold nestD; exact inferInstance
def wholeM (n : Nat) (cs : List Code) (i : Nat) : Code := if i = 0 then [] else if i = n then unitsM n else cs.getD (i - 1) []
theorem off_gr (G : Ads) (p n : Nat) {ns : List Str} (h : (["prime", "length"] : List Str) ≠ ns) : Off ns (gr G p n) := off_ins h fun K M H x C dx vs o us hx hn => offF_cons hx hn (offF_cons hx hn fun _ => offF_nil) us
def sqD (b : Bool) (ds : List Dt) : Dt := if b then .lst ds else .tup ds
def sp_first_wrong (K : PySem.W.Frag) (G : Ads) : Sp := spP K (α := (Nat × Nat) × Bool × List Code) (fun a => [gr G a.1.1 a.1.2, if a.2.1 then .lst (a.2.2.map codeD) else .tup (a.2.2.map codeD)]) (fun a => Gd a.1.1 a.1.2 ∧ FlagOk a.1.1 a.1.2 a.2.2) (fun _ d => .non = d)
def sp_Nest__init_ (K : PySem.W.Frag) (G : Ads) : Sp := spI K G.Nest (α := (Nat × Nat) × Bool × List Code) (fun a => [gr G a.1.1 a.1.2, if a.2.1 then .lst (a.2.2.map codeD) else .tup (a.2.2.map codeD)]) (fun a => Gd a.1.1 a.1.2 ∧ FlagOk a.1.1 a.1.2 a.2.2)
  (fun a => [("own_ground", gr G a.1.1 a.1.2), ("own_codes", .tup (a.2.2.map codeD))])
def sp_Nest_ground (K : PySem.W.Frag) (G : Ads) : Sp := spP K (α := (Nat × Nat) × List Code) (fun a => [nestD G a.1.1 a.1.2 a.2]) (fun _ => True) (fun a d => gr G a.1.1 a.1.2 = d)
def sp_Nest_codes (K : PySem.W.Frag) (G : Ads) : Sp := spP K (α := (Nat × Nat) × List Code) (fun a => [nestD G a.1.1 a.1.2 a.2]) (fun _ => True) (fun a d => .lst (a.2.map codeD) = d)
def sp_Nest_code (K : PySem.W.Frag) (G : Ads) : Sp := spP K (α := ((Nat × Nat) × List Code) × Nat) (fun a => [nestD G a.1.1.1 a.1.1.2 a.1.2, .int a.2]) (fun a => a.1.1.2 < 1000 ∧ a.2 ≤ a.1.1.2 ∧ a.1.2.length = a.1.1.2 - 1) (fun a d => codeD (wholeM a.1.1.2 a.1.2 a.2) = d)
section
variable {P : Program} {w : World} {K : PySem.W.Frag} {mg : Str → Option Value} {base : Heap} {G : Ads} {f : Addr} {fd : FuncData}
theorem sc_first_wrong : FnScope ["ground", "codes", "before", "k", "code", "path"] ["ground", "codes"] (defScope (top 33)) := ⟨rfl, rfl, rfl, by decide +kernel, rfl, by decide +kernel, by decide +kernel⟩
theorem ok_first_wrong (F : Df K "first_wrong" "first_wrong" (top 33) f fd) (T : Txt K mg G) (c_Ground_n : Me P w K mg base 1 G.Ground "n" (sp_Ground_n K G)) (c_code_fault : Cl P w K mg base 4 "code_fault" (sp_code_fault K G)) (c_is_within : Cl P w K mg base 6 "is_within" (sp_is_within K G)) : FnOk P w K mg base CX0 7 f fd ["ground", "codes"] (sp_first_wrong K G) := by
  have sc := sc_first_wrong
  refine F.ok sc (fun vs H Q E h => spP_len h fun _ => rfl) (fun cdv A outer s H vs Q E hr h => ?_)
  refine ⟨_, PSs.nox (pss_cons (ps_if (PW.pt (pw_or (pt_not (pt_val (pe_callB (x_isiT (K := K)) (by rfl) T.f_isinstance (by decide +kernel) (pa_cons (pv 1) (pa_cons (pe_tup (pa_cons (pe_bltn (v := .ty "list") (by rfl) T.f_list (by decide +kernel) rfl) (pa_cons (pe_bltn (v := .ty "tuple") (by rfl) T.f_tuple (by decide +kernel) rfl) pa_nil))) pa_nil))))) (pw_or1 (pt_cmpR (x_ne (K := K) hr.units) (pe_callB (x_len (K := K)) (by rfl) T.f_len PySem.boot_len (pa_cons (pv 1) pa_nil)) (pe_callB x_max (by rfl) T.f_max (by decide +kernel) (pa_cons pe_int (pa_cons (pe_op op_sub (pe_me0 c_Ground_n hr (by decide) (pv 0)) pe_int) pa_nil))) (nomark _))))) (pss_cons (ps_ret (pe_tup pa_nil)) pss_nil) pss_nil) (pss_cons (ps_set (i := 2) sc.nd rfl (Or.inl rfl) (pe_tup pa_nil)) (pss_cons (ps_for PassesOwn.never rfl (x_enum (K := K) (by rfl) T.f_enumerate (pa_cons (pv 1) pa_nil)) (x_tup (K := K) (n := 2) rfl (pgs_cons (pg_name (i := 3) sc.nd rfl (Or.inl rfl)) (pgs_cons (pg_name (i := 4) sc.nd rfl (Or.inl rfl)) pgs_nil))) (pss_cons (ps_set (i := 5) sc.nd rfl (Or.inl rfl) (pe_cl c_code_fault hr (by decide) (by rfl) (pa_cons (pv 0) (pa_cons (pv 4) pa_nil)))) (pss_cons (ps_if (pt_cmpR op_notN (pv 5) pe_non (nomark _)) (pss_cons (ps_ret (pe_tup (pa_cons (pv 3) (x_star (K := K) (pv 5) pa_nil)))) pss_nil) pss_nil) (pss_cons (ps_if (PW.pt (pw_or (pt_cmpR (x_ne (K := K) hr.units) (pe_callB (x_len (K := K)) (by rfl) T.f_len PySem.boot_len (pa_cons (pv 4) pa_nil)) (pe_op (x_add (K := K)) (pv 3) pe_int) (nomark _)) (pw_or1 (pt_not (pt_val (pe_cl c_is_within hr (by decide) (by rfl) (pa_cons (pv 0) (pa_cons (pv 2) (pa_cons (pv 4) pa_nil))))))))) (pss_cons (ps_ret (pe_tup (pa_cons (pv 3) pa_nil))) pss_nil) pss_nil) (pss_cons (ps_set (i := 2) sc.nd rfl (Or.inl rfl) (pv 4)) pss_nil))))) (pss_cons (ps_ret pe_non) pss_nil)))), ?_⟩
  obtain ⟨⟨⟨p, n⟩, b, cs⟩, ⟨g, o⟩, hargs, k⟩ := h
  have g : Gd p n := g
  have o : FlagOk p n cs := o
  have nle := g.nle
  have cl := o.len
  generalize hR : (if b then Dt.lst (cs.map codeD) else .tup (cs.map codeD)) = R
  have hq : IsSq R (cs.map codeD) := hR ▸ isq_b b _
  have hc : ∃ c, R.cls = some c ∧ (c = "list" ∨ c = "tuple") := by
    rw [← hR]
    cases b
    · exact ⟨_, rfl, .inr rfl⟩
    · exact ⟨_, rfl, .inl rfl⟩
  obtain ⟨cn, hcn, hcc⟩ := hc
  have st : At K z0 H [] [some (gr G p n), some R, none, none, none, none] (L2.start ["ground", "codes", "before", "k", "code", "path"] vs) H := at_beg hargs (by rw [← hR]; rfl) rfl
  have mx : (if ((n : Int) - 1) > 0 then ((n : Int) - 1) else 0) = ((n - 1 : Nat) : Int) := by
    split <;> omega
  have ty : EVT K z0 H [] [some (gr G p n), some R, none, none, none, none] (tTest (tCB (rIsiT K) (tCons (tVar 1) (tCons (tTup (tCons (tC (.ty "list")) (tCons (tC (.ty "tuple")) tNil))) tNil)))) (Eq true) := by
    refine EVT.eq (et_test (W := wF) (ev_isiT (c := cn) (ns := ["list", "tuple"]) (ev_varW rfl) hcn (ea_cons ev_ty (ea_cons ev_ty ea_nil)) (by decide) ?_)) ?_
    · rcases hcc with q | q <;> subst q <;> decide +kernel
    · rcases hcc with q | q <;> subst q <;> decide +kernel
  refine q_if st (EVT.eq (c := false) (et_or (b := false) (c := false) (et_not (b := true) ty) fun _ => EVT.eq (et_B (W := wF) (ev_op (ev_cb (ea_cons (ev_varW rfl) ea_nil) (rc_len hq)) (EV.eq (ev_cb (ea_cons ev_int (ea_cons (ev_op (ev_gn (ev_varW rfl)) ev_int rr_sub) ea_nil)) rc_max) (congrArg Dt.int mx)) rr_neI)) (by rw [List.length_map, cl]; simp)) rfl) (fun z => nomatch z) fun _ H1 s1 => ?_
  refine q_next (q_asg s1 (ev_tup ea_nil) fun d pd σ2 H2 s2 => ?_)
  subst pd
  refine q_for (β := Unit) (I := fun _ i _ => True) (Lf := fun _ _ _ => []) (Γf := fun _ i _ => [some (gr G p n), some R, some (codeD (if i = 0 then [] else cs.getD (i - 1) [])), none, none, none]) (is := [3, 4]) (es := fun d => match d with | .tup [a, b] => [a, b] | _ => [.non, .non]) s2
    (it_enum (PL := Eq (cs.map codeD)) fun σ H a Q q => ea_cons (ev_var rfl) ea_nil σ H a Q fun ds vs H' pd => q ds vs H' ⟨_, _, pd.symm, hq, rfl⟩) ?_ (fun _ _ _ => rfl) (fun _ _ => ⟨(), trivial, rfl, .keep (.keep (.keep (.keep (.keep (.keep .nil)))))⟩) ?_ ?_
  · rintro items ⟨ds, rfl, rfl⟩ d hd
    obtain ⟨i, hi, rfl⟩ := List.mem_map.mp hd
    exact gt_tup2
  · rintro items ⟨ds, rfl, rfl⟩ i d _ hd _ H3 g3 σ4 H4 s4 N kN
    have hlt : i < cs.length := by
      have := (List.getElem?_eq_some_iff.mp hd).1
      rw [enumD_len, List.length_map] at this
      exact this
    have hr : cs[i]? = some cs[i] := List.getElem?_eq_getElem hlt
    rw [enumD_get (d := codeD cs[i]) (by rw [List.getElem?_map, hr]; rfl)] at hd
    cases hd
    obtain ⟨co, cln⟩ := o.code i _ hr
    refine q_asg s4 (ev_code_fault (ea_cons (ev_varW rfl) (ea_cons (ev_varW rfl) ea_nil)) g co) fun d pd σ5 H5 s5 => ?_
    subst pd
    refine q_if s5 (EVT.eq (c := false) (et_B (W := wF) (ev_op (ev_varW rfl) ev_non rr_notN)) rfl) (fun z => nomatch z) fun _ H6 s6 => ?_
    have hb : Rows p n (if i = 0 then [] else cs.getD (i - 1) []) ∧ (if i = 0 then [] else cs.getD (i - 1) []).all (fun r => inM p n cs[i] r) = true := by
      by_cases q : i = 0
      · rw [if_pos q]
        exact ⟨⟨by decide, fun _ h => nomatch h⟩, rfl⟩
      · rw [if_neg q]
        have hl2 : i - 1 < cs.length := by omega
        have hr2 : cs[i - 1]? = some cs[i - 1] := List.getElem?_eq_getElem hl2
        have e : cs.getD (i - 1) [] = cs[i - 1] := by rw [List.getD_eq_getElem?_getD, hr2]; rfl
        rw [e]
        obtain ⟨c1, c2⟩ := o.code _ _ hr2
        refine ⟨⟨?_, c1.ok⟩, o.within (i - 1) _ _ hr2 (by rw [show i - 1 + 1 = i by omega]; exact hr)⟩
        have := c1.len
        omega
    refine q_next (q_if s6 (EVT.eq (c := false) (et_or (b := false) (c := false) (EVT.eq (et_B (W := wF) (ev_op (ev_cb (ea_cons (ev_varW rfl) ea_nil) (rc_len (.tup _))) (ev_op (ev_varW rfl) ev_int rr_addI) rr_neI)) (by rw [List.length_map, cln]; simp)) fun _ => EVT.eq (et_not (b := true) (EVT.eq (et_test (W := wF) (ev_is_within (ea_cons (ev_varW rfl) (ea_cons (ev_varW rfl) (ea_cons (ev_varW rfl) ea_nil))) g hb.1 (by have := co.len; omega) co.ech)) hb.2)) rfl) rfl) (fun z => nomatch z) fun _ H7 s7 => ?_)
    refine q_next (q_asg s7 (ev_var rfl) fun d pd σ8 H8 s8 => ?_)
    subst pd
    refine q_next (kN () σ8 H8 trivial ?_)
    have e : (if i + 1 = 0 then [] else cs.getD (i + 1 - 1) []) = cs[i] := by rw [if_neg (Nat.succ_ne_zero i), Nat.add_sub_cancel, List.getD_eq_getElem?_getD, hr]; rfl
    rw [e]
    exact s8.less (.keep (.keep (.keep (.drop (.drop (.drop .nil))))))
  · rintro items ⟨ds, rfl, rfl⟩ _ _ σ3 H3 s3
    exact q_ret1 (P := Eq .non) s3 ev_non k
end
section
variable {P : Program} {w : World} {K : PySem.W.Frag} {mg : Str → Option Value} {base : Heap} {G : Ads} {f : Addr} {fd : FuncData}
variable {Z : Zn} {H0 : Hp} {L : Own} {Γ : Gam} {W : Hp → Addr → Prop} {E : XK} {t : TA} {te : TE} {p n m : Nat} {d : Dt} {cs : List Code} {i : Nat}
theorem ev_first_wrong [Wd K Z L W] (h : EVA K Z H0 L Γ (wW Z) t (Eq [gr G p n, d])) (hd : IsSq d (cs.map codeD)) (g : Gd p n) (o : FlagOk p n cs) : EV K Z H0 L Γ W (tCall (sp_first_wrong K G) [] E t) (Eq .non) := by
  cases hd with
  | lst => exact ev_call (x := ((p, n), true, cs)) h ⟨g, o⟩
  | tup => exact ev_call (x := ((p, n), false, cs)) h ⟨g, o⟩
theorem ev_nest [Wd K Z L W] (h : EVA K Z H0 L Γ (wW Z) t (Eq [gr G p n, d])) (hd : IsSq d (cs.map codeD)) (g : Gd p n) (o : FlagOk p n cs) : EV K Z H0 L Γ W (tMake G.Nest (sp_Nest__init_ K G) [] E t) (Eq (nestD G p n cs)) := by
  cases hd with
  | lst => exact ev_make (x := (((p, n), true, cs) : (Nat × Nat) × Bool × List Code)) h ⟨g, o⟩
  | tup => exact ev_make (x := (((p, n), false, cs) : (Nat × Nat) × Bool × List Code)) h ⟨g, o⟩
theorem ev_fog [Wd K Z L W] (T : Txt K mg G) (h : EV K Z H0 L Γ (wW Z) te (Eq (nestD G p n cs))) : EV K Z H0 L Γ W (tFld K te "own_ground") (Eq (gr G p n)) := ev_fld T.k_Nest T.n_Nest_own_ground h rfl
theorem ev_foc [Wd K Z L W] (T : Txt K mg G) (h : EV K Z H0 L Γ (wW Z) te (Eq (nestD G p n cs))) : EV K Z H0 L Γ W (tFld K te "own_codes") (Eq (.tup (cs.map codeD))) := ev_fld T.k_Nest T.n_Nest_own_codes h rfl
theorem ev_nground [Wd K Z L W] (h : EV K Z H0 L Γ (wW Z) te (Eq (nestD G p n cs))) : EV K Z H0 L Γ W (tMeth G.Nest "ground" (sp_Nest_ground K G) [] E te tNil) (Eq (gr G p n)) := ev_meth (((p, n), cs) : (Nat × Nat) × List Code) h ea_nil rfl trivial (by rfl)
theorem ev_ncodes [Wd K Z L W] (h : EV K Z H0 L Γ (wW Z) te (Eq (nestD G p n cs))) : EV K Z H0 L Γ W (tMeth G.Nest "codes" (sp_Nest_codes K G) [] E te tNil) (Eq (.lst (cs.map codeD))) := ev_meth (((p, n), cs) : (Nat × Nat) × List Code) h ea_nil rfl trivial (by rfl)
theorem ev_ncode [Wd K Z L W] (h : EV K Z H0 L Γ (wW Z) te (Eq (nestD G p n cs))) (ha : EVA K Z H0 L Γ (wW Z) t (Eq [.int i])) (hn : n < 1000) (hi : i ≤ n) (hl : cs.length = n - 1) : EV K Z H0 L Γ W (tMeth G.Nest "code" (sp_Nest_code K G) [] E te t) (Eq (codeD (wholeM n cs i))) :=
  ev_meth ((((p, n), cs), i) : ((Nat × Nat) × List Code) × Nat) h ha rfl ⟨hn, hi, hl⟩ (by rfl)
end
section
variable {P : Program} {w : World} {K : PySem.W.Frag} {mg : Str → Option Value} {base : Heap} {G : Ads} {f : Addr} {fd : FuncData}
theorem sc_Nest__init_ : FnScope ["self", "ground", "codes", "path"] ["self", "ground", "codes"] (defScope (inClass (top 35) 0)) := ⟨rfl, rfl, rfl, by decide +kernel, rfl, by decide +kernel, by decide +kernel⟩
theorem ok_Nest__init_ (F : Df K "__init__" "Nest.__init__" (inClass (top 35) 0) f fd) (T : Txt K mg G) (c_first_wrong : Cl P w K mg base 7 "first_wrong_nests" (sp_first_wrong K G)) : FnOk P w K mg base CX0 8 f fd ["self", "ground", "codes"] (sp_Nest__init_ K G) := by
  have sc := sc_Nest__init_
  refine F.ok sc (fun vs H Q E h => spI_len h fun _ => rfl) (fun cdv A outer s H vs Q E hr h => ?_)
  refine ⟨_, PSs.nox (pss_cons (ps_set (i := 3) sc.nd rfl (Or.inl rfl) (pe_cl c_first_wrong hr (by decide) (by rfl) (pa_cons (pv 1) (pa_cons (pv 2) pa_nil)))) (pss_cons (ps_if (pt_cmpR op_notN (pv 3) pe_non (nomark _)) pss_never pss_nil) (pss_cons (x_sets (K := K) (pv 0) (pv 1)) (pss_cons (x_sets (K := K) (pv 0) (pe_callTy (x_tuple (K := K)) (by rfl) T.f_tuple (by decide +kernel) (pa_cons (pv 2) pa_nil))) pss_nil)))), ?_⟩
  obtain ⟨⟨⟨p, n⟩, b, cs⟩, x, dx, ws, rfl, hx, ⟨g, o⟩, ⟨Hb, hb1, hb2, hargs⟩, k⟩ := h
  have g : Gd p n := g
  have o : FlagOk p n cs := o
  have hcs : cs.length ≤ 1000 := by have := o.len; have := g.nle; omega
  have hargs : Ly.IsL K (fun x => False) Hb [gr G p n, if b then .lst (cs.map codeD) else .tup (cs.map codeD)] ws := hargs
  generalize hR : (if b then Dt.lst (cs.map codeD) else .tup (cs.map codeD)) = R at hargs
  have hq : IsSq R (cs.map codeD) := hR ▸ isq_b b _
  have st : At K z0 H [] [some (.raw (.ref x)), some (gr G p n), some R, none] (L2.start ["self", "ground", "codes", "path"] (V.ref x :: ws)) H := at_beg (.cons (.raw _) (hargs.mono (Gm.ofEx hb2))) rfl rfl
  refine q_asg st (ev_first_wrong (ea_cons (ev_varW rfl) (ea_cons (ev_varW rfl) ea_nil)) hq g o) fun d pd σ1 H1 s1 => ?_
  subst pd
  refine q_if s1 (EVT.eq (c := false) (et_B (W := wF) (ev_op (ev_varW rfl) ev_non rr_notN)) rfl) (fun z => nomatch z) fun _ H2 s2 => ?_
  have ex : Ex H H2 := s2.ex0 fun _ q => nomatch q
  refine q_next (q_setI s2 (ex x _ hx) rfl T.k_Nest T.n_Nest_own_ground rfl (ev_var rfl).imm fun d v H3 pd e3 i3 => ?_)
  subst pd
  have oR : ∀ ns, Off ns R := fun ns => by
    cases hq <;> exact inferInstance
  have hx3 : H3 x = some (.ins G.Nest dx []) := e3 x _ (ex x _ hx)
  obtain ⟨g23, j23⟩ := s2.ex e3
  have s3 := (s2.step g23 j23).off (o := .ins G.Nest dx (putF "own_ground" v [])) hx3 (ns := []) rfl (by
    have := off_gr G p n (ns := []) (by decide)
    have := oR []
    show OffG [] [some (.raw (.ref x)), some (gr G p n), some R, some .non]
    exact inferInstance)
  refine q_setI s3 upd_same rfl T.k_Nest T.n_Nest_own_codes rfl (ev_cb (ea_cons (ev_varW (d := R) rfl) ea_nil) (rc_tuple hq)) fun d v2 H5 pd e5 i5 => ?_
  subst pd
  have j4 := (off_gr G p n (ns := []) (by decide)).any K _ H3 x G.Nest dx [] (.ins G.Nest dx (putF "own_ground" v [])) v hx3 rfl i3
  have h5 : H5 x = some (.ins G.Nest dx (putF "own_ground" v [])) := e5 x _ upd_same
  have j6 := (off_gr G p n (ns := ["own_ground"]) (by decide)).any K _ H5 x G.Nest dx _ (.ins G.Nest dx (putF "own_codes" v2 (putF "own_ground" v []))) v h5 rfl (j4.mono (Gm.ofEx e5))
  have k6 := (inferInstance : Off ["own_ground"] (.tup (cs.map codeD))).any K _ H5 x G.Nest dx _ (.ins G.Nest dx (putF "own_codes" v2 (putF "own_ground" v []))) v2 h5 rfl i5
  refine k _ _ (fun b o hb e => ?_) upd_same (.cons ((inferInstance : Imm (gr G p n)).any _ _ _ _ _ j6) (.cons ((inferInstance : Imm (.tup (cs.map codeD))).any _ _ _ _ _ k6) .nil))
  rw [upd_ne hb]
  refine e5 b o ?_
  rw [upd_ne hb]
  exact e3 b o (ex b o e)
theorem sc_Nest_ground : FnScope ["self"] ["self"] (defScope (inClass (top 35) 2)) := ⟨rfl, rfl, rfl, by decide +kernel, rfl, by decide +kernel, by decide +kernel⟩
theorem ok_Nest_ground (F : Df K "ground" "Nest.ground" (inClass (top 35) 2) f fd) (T : Txt K mg G)  : FnOk P w K mg base CX0 1 f fd ["self"] (sp_Nest_ground K G) := by
  have sc := sc_Nest_ground
  refine F.ok sc (fun vs H Q E h => spP_len h fun _ => rfl) (fun cdv A outer s H vs Q E hr h => ?_)
  refine ⟨_, PSs.nox (pss_cons (ps_ret (x_fld (K := K) (pv 0))) pss_nil), ?_⟩
  obtain ⟨⟨⟨p, n⟩, cs⟩, pre, hargs, k⟩ := h
  have st : At K z0 H [] [some (nestD G p n cs)] (L2.start ["self"] vs) H := at_beg hargs rfl rfl
  exact q_ret1 st (ev_fog T (ev_varW rfl)) k
theorem sc_Nest_codes : FnScope ["self"] ["self"] (defScope (inClass (top 35) 3)) := ⟨rfl, rfl, rfl, by decide +kernel, rfl, by decide +kernel, by decide +kernel⟩
theorem ok_Nest_codes (F : Df K "codes" "Nest.codes" (inClass (top 35) 3) f fd) (T : Txt K mg G)  : FnOk P w K mg base CX0 1 f fd ["self"] (sp_Nest_codes K G) := by
  have sc := sc_Nest_codes
  refine F.ok sc (fun vs H Q E h => spP_len h fun _ => rfl) (fun cdv A outer s H vs Q E hr h => ?_)
  refine ⟨_, PSs.nox (pss_cons (ps_ret (pe_callTy (x_list (K := K)) (by rfl) T.f_list (by decide +kernel) (pa_cons (x_fld (K := K) (pv 0)) pa_nil))) pss_nil), ?_⟩
  obtain ⟨⟨⟨p, n⟩, cs⟩, pre, hargs, k⟩ := h
  have st : At K z0 H [] [some (nestD G p n cs)] (L2.start ["self"] vs) H := at_beg hargs rfl rfl
  exact q_ret1 st (ev_cb (ea_cons (ev_foc T (ev_varW rfl)) ea_nil) (rc_list (.tup _))) k
theorem sc_Nest_code : FnScope ["self", "i", "n"] ["self", "i"] (defScope (inClass (top 35) 4)) := ⟨rfl, rfl, rfl, by decide +kernel, rfl, by decide +kernel, by decide +kernel⟩
theorem ok_Nest_code (F : Df K "code" "Nest.code" (inClass (top 35) 4) f fd) (T : Txt K mg G) (c_Ground_n : Me P w K mg base 1 G.Ground "n" (sp_Ground_n K G)) (c_is_number : Cl P w K mg base 1 "is_number" (sp_is_number K G)) (c_Ground_units : Me P w K mg base 1 G.Ground "units" (sp_Ground_units K G)) : FnOk P w K mg base CX0 2 f fd ["self", "i"] (sp_Nest_code K G) := by
  have sc := sc_Nest_code
  refine F.ok sc (fun vs H Q E h => spP_len h fun _ => rfl) (fun cdv A outer s H vs Q E hr h => ?_)
  refine ⟨_, PSs.nox (pss_cons (ps_set (i := 2) sc.nd rfl (Or.inl rfl) (pe_me0 c_Ground_n hr (by decide) (x_fld (K := K) (pv 0)))) (pss_cons (ps_if (PW.pt (pw_or (pt_not (pt_val (pe_cl c_is_number hr (by decide) (by rfl) (pa_cons (pv 1) pa_nil)))) (pw_or1 (pt_cmpR op_gt (pv 1) (pv 2) (nomark _))))) pss_never pss_nil) (pss_cons (ps_if (pt_cmpR (x_eq (K := K) hr.units) (pv 1) pe_int (nomark _)) (pss_cons (ps_ret (pe_tup pa_nil)) pss_nil) pss_nil) (pss_cons (ps_ret (pe_ifExp (pt_cmpR (x_eq (K := K) hr.units) (pv 1) (pv 2) (nomark _)) (pe_me0 c_Ground_units hr (by decide) (x_fld (K := K) (pv 0))) (pe_ix (x_ix (K := K)) (x_fld (K := K) (pv 0)) (pe_op op_sub (pv 1) pe_int) (fun _ _ => rfl)))) pss_nil)))), ?_⟩
  obtain ⟨⟨⟨⟨p, n⟩, cs⟩, i⟩, ⟨hn, hi, hl⟩, hargs, k⟩ := h
  have hn : n < 1000 := hn
  have hi : i ≤ n := hi
  have hl : cs.length = n - 1 := hl
  have st : At K z0 H [] [some (nestD G p n cs), some (.int i), none] (L2.start ["self", "i", "n"] vs) H := at_beg hargs rfl rfl
  refine q_asg st (ev_gn (ev_fog T (ev_varW rfl))) fun d pd σ1 H1 s1 => ?_
  subst pd
  refine q_if s1 (EVT.eq (c := false) (et_or (b := false) (c := false) (EVT.eq (et_not (et_test (W := wF) (ev_isnum (d := .int i) (ea_cons (ev_varW rfl) ea_nil)))) (by simp [isNum])) fun _ => EVT.eq (et_B (W := wF) (ev_op (ev_varW rfl) (ev_varW rfl) rr_gt)) (by simp; exact hi)) rfl) (fun z => nomatch z) fun _ H2 s2 => ?_
  refine q_next (q_if s2 (EVT.eq (c := decide (i = 0)) (et_B (W := wF) (ev_op (ev_varW rfl) ev_int rr_eqI)) (decide_eq_decide.mpr (by omega))) (fun h0 H3 s3 => ?_) fun h0 H3 s3 => ?_)
  · have h0 := of_decide_eq_true h0
    refine q_ret1 s3 (EV.eq (ev_tup ea_nil) ?_) k
    show codeD [] = codeD (wholeM n cs i)
    unfold wholeM
    rw [if_pos h0]
  · have h0 := of_decide_eq_false h0
    refine q_next (q_ret1 s3 (P := Eq (codeD (wholeM n cs i))) (ev_if (EVT.eq (c := decide (i = n)) (et_B (W := wF) (ev_op (ev_varW rfl) (ev_varW rfl) rr_eqI)) (decide_eq_decide.mpr (by omega))) (fun h1 => ?_) fun h1 => ?_) k)
    · have h1 := of_decide_eq_true h1
      refine EV.eq (ev_gunits (ev_fog T (ev_varW rfl)) hn) ?_
      unfold wholeM
      rw [if_neg h0, if_pos h1]
    · have h1 := of_decide_eq_false h1
      have hlt : i - 1 < cs.length := by omega
      have hr : cs[i - 1]? = some cs[i - 1] := List.getElem?_eq_getElem hlt
      refine EV.eq (ev_op (ev_foc T (ev_varW rfl)) (ev_op (ev_varW rfl) ev_int rr_sub) (rr_ixT (d := codeD cs[i - 1]) (ix_nat (by omega) ?_))) ?_
      · rw [show ((i : Int) - 1).toNat = i - 1 by omega, List.getElem?_map, hr]
        rfl
      · unfold wholeM
        rw [if_neg h0, if_neg h1, List.getD_eq_getElem?_getD, hr]
        rfl
end
end Wk
end
section
set_option Elab.async false
set_option linter.all false
set_option maxRecDepth 100000
set_option maxHeartbeats 4000000
set_option autoImplicit false
namespace Wk
open PySem L2 Ly Mx
/-! ### sharing.py -/
theorem ok_unit {p n k : Nat} (hp : 2 ≤ p) : Mx.Ok p n (unitM n k) := by
  refine ⟨by unfold unitM; rw [List.length_map, List.length_range], fun x hx => ?_⟩
  obtain ⟨c, _, rfl⟩ := List.mem_map.mp hx
  split <;> omega
theorem rows_units {p n : Nat} (g : Gd p n) : Rows p n (unitsM n) := by
  have := g.nle
  refine ⟨by unfold unitsM; rw [List.length_map, List.length_range]; omega, fun r hr => ?_⟩
  obtain ⟨k, _, rfl⟩ := List.mem_map.mp hr
  exact ok_unit g.pr.two
theorem rows_ech {p n : Nat} {c : Code} (g : Gd p n) (h : Ech p n c) : Rows p n c := by
  have := g.nle
  have := h.len
  exact ⟨by omega, h.ok⟩
theorem rows_whole {p n i : Nat} {cs : List Code} (g : Gd p n) (o : FlagOk p n cs) : Rows p n (wholeM n cs i) := by
  unfold wholeM
  by_cases q : i = 0
  · rw [if_pos q]
    exact ⟨by decide, fun _ h => nomatch h⟩
  · rw [if_neg q]
    by_cases q2 : i = n
    · rw [if_pos q2]
      exact rows_units g
    · rw [if_neg q2]
      by_cases q3 : i - 1 < cs.length
      · have hr : cs[i - 1]? = some cs[i - 1] := List.getElem?_eq_getElem q3
        rw [List.getD_eq_getElem?_getD, hr]
        exact rows_ech g (o.code _ _ hr).1.ech
      · rw [List.getD_eq_getElem?_getD, List.getElem?_eq_none (by omega)]
        exact ⟨by decide, fun _ h => nomatch h⟩
theorem ech_common {p n : Nat} {one other : Code} (g : Gd p n) (h1 : Rows p n one) (h2 : Rows p n other) : Ech p n (commonM p n one other) :=
  red_ech g.pr (ok_late fun r hr => (red_ech g.pr (ok_dbl g.pos h1.2 h2.2)).ok r hr)
theorem ech_joined {p n : Nat} {one other : Code} (g : Gd p n) (h1 : Rows p n one) (h2 : Rows p n other) : Ech p n (joinedM p one other) :=
  red_ech g.pr fun r hr => (List.mem_append.mp hr).elim (h1.2 r) (h2.2 r)
def meetM (p n : Nat) (css : List (List Code)) (places : List Nat) : Code := (List.zip css places).foldl (fun code z => commonM p n code (wholeM n z.1 z.2)) (unitsM n)
def lessM (places : List Nat) (k : Nat) : List Nat := places.take k ++ (places.getD k 0 - 1) :: places.drop (k + 1)
def belowM (p n : Nat) (css : List (List Code)) (places : List Nat) : Code := (List.range places.length).foldl (fun code k => if 0 < places.getD k 0 then joinedM p code (meetM p n css (lessM places k)) else code) []
def freshM (p n : Nat) (css : List (List Code)) (places : List Nat) : Int := (meetM p n css places).length - (belowM p n css places).length
abbrev plD (places : List Nat) : Dt := .tup (places.map fun i => .int (i : Nat))
abbrev nsD (G : Ads) (p n : Nat) (css : List (List Code)) : List Dt := css.map (nestD G p n)
structure NsOk (p n : Nat) (css : List (List Code)) : Prop where
  ne : css ≠ []
  le : css.length ≤ 100
  ok : ∀ cs ∈ css, FlagOk p n cs
structure PlOk (n m : Nat) (places : List Nat) : Prop where
  len : places.length = m
  le : ∀ x ∈ places, x ≤ n
theorem rows_meet' {p n : Nat} (g : Gd p n) : ∀ (zs : List (List Code × Nat)) (c : Code), (∀ z ∈ zs, FlagOk p n z.1) → Rows p n c → Rows p n (zs.foldl (fun code z => commonM p n code (wholeM n z.1 z.2)) c)
  | [], _, _, h => h
  | z :: zs, c, o, h => by
    show Rows p n (zs.foldl _ (commonM p n c (wholeM n z.1 z.2)))
    exact rows_meet' g zs _ (fun y hy => o y (List.mem_cons_of_mem _ hy)) (rows_ech g (ech_common g h (rows_whole g (o z (List.mem_cons_self ..)))))
theorem rows_meet {p n : Nat} {css : List (List Code)} {places : List Nat} (g : Gd p n) (o : ∀ cs ∈ css, FlagOk p n cs) : Rows p n (meetM p n css places) := rows_meet' g _ _ (fun z hz => o _ (List.of_mem_zip hz).1) (rows_units g)
theorem rows_below' {p n : Nat} {css : List (List Code)} {places : List Nat} (g : Gd p n) (o : ∀ cs ∈ css, FlagOk p n cs) : ∀ (ks : List Nat) (c : Code), Rows p n c → Rows p n (ks.foldl (fun code k => if 0 < places.getD k 0 then joinedM p code (meetM p n css (lessM places k)) else code) c)
  | [], _, h => h
  | k :: ks, c, h => by
    refine rows_below' g o ks _ ?_
    show Rows p n (if 0 < places.getD k 0 then joinedM p c (meetM p n css (lessM places k)) else c)
    split
    · exact rows_ech g (ech_joined g h (rows_meet g o))
    · exact h
theorem rows_below {p n : Nat} {css : List (List Code)} {places : List Nat} (g : Gd p n) (o : ∀ cs ∈ css, FlagOk p n cs) : Rows p n (belowM p n css places) := rows_below' g o _ _ ⟨by decide, fun _ h => nomatch h⟩
def sp_check_alike_N (K : PySem.W.Frag) (G : Ads) : Sp := spP K (α := (Nat × Nat) × Bool × List (List Code)) (fun a => [sqD a.2.1 (nsD G a.1.1 a.1.2 a.2.2)]) (fun _ => True) (fun _ d => .non = d)
def sp_meet_at (K : PySem.W.Frag) (G : Ads) : Sp := spP K (α := (Nat × Nat) × Bool × List (List Code) × List Nat) (fun a => [sqD a.2.1 (nsD G a.1.1 a.1.2 a.2.2.1), plD a.2.2.2]) (fun a => Gd a.1.1 a.1.2 ∧ NsOk a.1.1 a.1.2 a.2.2.1 ∧ PlOk a.1.2 a.2.2.1.length a.2.2.2)
  (fun a d => codeD (meetM a.1.1 a.1.2 a.2.2.1 a.2.2.2) = d)
def sp_below_at (K : PySem.W.Frag) (G : Ads) : Sp := spP K (α := (Nat × Nat) × Bool × List (List Code) × List Nat) (fun a => [sqD a.2.1 (nsD G a.1.1 a.1.2 a.2.2.1), plD a.2.2.2]) (fun a => Gd a.1.1 a.1.2 ∧ NsOk a.1.1 a.1.2 a.2.2.1 ∧ PlOk a.1.2 a.2.2.1.length a.2.2.2)
  (fun a d => codeD (belowM a.1.1 a.1.2 a.2.2.1 a.2.2.2) = d)
def sp_fresh (K : PySem.W.Frag) (G : Ads) : Sp := spP K (α := (Nat × Nat) × Bool × List (List Code) × List Nat) (fun a => [sqD a.2.1 (nsD G a.1.1 a.1.2 a.2.2.1), plD a.2.2.2]) (fun a => Gd a.1.1 a.1.2 ∧ NsOk a.1.1 a.1.2 a.2.2.1 ∧ PlOk a.1.2 a.2.2.1.length a.2.2.2)
  (fun a d => .int (freshM a.1.1 a.1.2 a.2.2.1 a.2.2.2) = d)
section
variable {P : Program} {w : World} {K : PySem.W.Frag} {mg : Str → Option Value} {base : Heap} {G : Ads} {f : Addr} {fd : FuncData}
variable {Z : Zn} {H0 : Hp} {L : Own} {Γ : Gam} {W : Hp → Addr → Prop} {E : XK} {t : TA} {te : TE} {p n m : Nat} {d : Dt} {css : List (List Code)} {pl : List Nat}
theorem sq_cases {d : Dt} {ds : List Dt} (h : IsSq d ds) : ∃ b, d = sqD b ds := by
  cases h with
  | lst => exact ⟨true, rfl⟩
  | tup => exact ⟨false, rfl⟩
theorem sq_is (b : Bool) (ds : List Dt) : IsSq (sqD b ds) ds := isq_b b ds
theorem ev_check_alike [Wd K Z L W] (h : EVA K Z H0 L Γ (wW Z) t (Eq [d])) (hd : IsSq d (nsD G p n css)) : EV K Z H0 L Γ W (tCall (sp_check_alike_N K G) [] E t) (Eq .non) := by
  obtain ⟨b, rfl⟩ := sq_cases hd
  exact ev_call (x := ((p, n), b, css)) h trivial
theorem ev_meet_at [Wd K Z L W] (h : EVA K Z H0 L Γ (wW Z) t (Eq [d, plD pl])) (hd : IsSq d (nsD G p n css)) (g : Gd p n) (o : NsOk p n css) (po : PlOk n css.length pl) : EV K Z H0 L Γ W (tCall (sp_meet_at K G) [] E t) (Eq (codeD (meetM p n css pl))) := by
  obtain ⟨b, rfl⟩ := sq_cases hd
  exact ev_call (x := ((p, n), b, css, pl)) h ⟨g, o, po⟩
theorem ev_below_at [Wd K Z L W] (h : EVA K Z H0 L Γ (wW Z) t (Eq [d, plD pl])) (hd : IsSq d (nsD G p n css)) (g : Gd p n) (o : NsOk p n css) (po : PlOk n css.length pl) : EV K Z H0 L Γ W (tCall (sp_below_at K G) [] E t) (Eq (codeD (belowM p n css pl))) := by
  obtain ⟨b, rfl⟩ := sq_cases hd
  exact ev_call (x := ((p, n), b, css, pl)) h ⟨g, o, po⟩
theorem ev_fresh [Wd K Z L W] (h : EVA K Z H0 L Γ (wW Z) t (Eq [d, plD pl])) (hd : IsSq d (nsD G p n css)) (g : Gd p n) (o : NsOk p n css) (po : PlOk n css.length pl) : EV K Z H0 L Γ W (tCall (sp_fresh K G) [] E t) (Eq (.int (freshM p n css pl))) := by
  obtain ⟨b, rfl⟩ := sq_cases hd
  exact ev_call (x := ((p, n), b, css, pl)) h ⟨g, o, po⟩
theorem ev_ix0 [Wd K Z L W] {d x : Dt} {ds : List Dt} [Imm x] (h : EV K Z H0 L Γ (wW Z) te (Eq d)) (hd : IsSq d ds) (hx : ds[0]? = some x) : EV K Z H0 L Γ W (tOp (rIx K) te (tC (.int 0))) (Eq x) := by
  cases hd with
  | lst => exact ev_op h ev_int (rr_ixL (ix_nat (by decide) hx))
  | tup => exact ev_op h ev_int (rr_ixT (ix_nat (by decide) hx))
end
section
variable {P : Program} {w : World} {K : PySem.W.Frag} {mg : Str → Option Value} {base : Heap} {G : Ads} {f : Addr} {fd : FuncData}
end
end Wk
end
section
set_option Elab.async false
set_option linter.all false
set_option maxRecDepth 100000
set_option maxHeartbeats 4000000
set_option autoImplicit false
namespace Wk
open PySem L2 Ly Mx
theorem len_less {places : List Nat} {k : Nat} (h : k < places.length) : (lessM places k).length = places.length := by
  unfold lessM
  rw [List.length_append, List.length_take, List.length_cons, List.length_drop]
  omega
theorem PlOk.less {n m : Nat} {places : List Nat} (o : PlOk n m places) {k : Nat} (h : k < places.length) : PlOk n m (lessM places k) := by
  refine ⟨(len_less h).trans o.len, fun x hx => ?_⟩
  unfold lessM at hx
  rcases List.mem_append.mp hx with q | q
  · exact o.le x (List.mem_of_mem_take q)
  · rcases List.mem_cons.mp q with q | q
    · have e : places.getD k 0 = places[k] := by rw [List.getD_eq_getElem?_getD, List.getElem?_eq_getElem h]; rfl
      have := o.le _ (List.getElem_mem h)
      rw [q, e]
      omega
    · exact o.le x (List.mem_of_mem_drop q)
/-- what beyond_rows keeps: what is found, what is below -/
def beyStep (p n : Nat) (s : Code × Code) (row : List Int) : Code × Code := if inM p n s.2 row then s else (s.1 ++ [row], redM p (s.2 ++ [row]))
def beyondM (p n : Nat) (code below : Code) : Code := (code.foldl (beyStep p n) ([], below)).1
def sp_beyond_rows (K : PySem.W.Frag) (G : Ads) : Sp := spP K (α := (Nat × Nat) × Code × Code) (fun a => [gr G a.1.1 a.1.2, codeD a.2.1, codeD a.2.2]) (fun a => Gd a.1.1 a.1.2 ∧ Rows a.1.1 a.1.2 a.2.1 ∧ Ech a.1.1 a.1.2 a.2.2)
  (fun a d => .lst ((beyondM a.1.1 a.1.2 a.2.1 a.2.2).map rowD) = d)
theorem ech_step {p n : Nat} {s : Code × Code} {row : List Int} (g : Gd p n) (h : Ech p n s.2) (o : Mx.Ok p n row) : Ech p n (beyStep p n s row).2 := by
  unfold beyStep
  split
  · exact h
  · exact red_ech g.pr fun r hr => (List.mem_append.mp hr).elim (h.ok r) fun q => by rw [List.mem_singleton.mp q]; exact o
theorem ech_bey {p n : Nat} (g : Gd p n) : ∀ (code : Code) (s : Code × Code), (∀ r ∈ code, Mx.Ok p n r) → Ech p n s.2 → Ech p n (code.foldl (beyStep p n) s).2
  | [], _, _, h => h
  | r :: code, s, o, h => ech_bey g code _ (fun t ht => o t (List.mem_cons_of_mem _ ht)) (ech_step g h (o r (List.mem_cons_self ..)))
theorem len_bey {p n : Nat} : ∀ (code : Code) (s : Code × Code), (code.foldl (beyStep p n) s).1.length ≤ s.1.length + code.length
  | [], _ => Nat.le_refl _
  | r :: code, s => by
    have h1 := len_bey (p := p) (n := n) code (beyStep p n s r)
    have h2 : (beyStep p n s r).1.length ≤ s.1.length + 1 := by
      unfold beyStep
      split
      · omega
      · rw [List.length_append]; exact Nat.le_refl _
    show (code.foldl (beyStep p n) (beyStep p n s r)).1.length ≤ _
    rw [List.length_cons]
    omega
def stepPl (n : Nat) (found : List (List Nat)) : List (List Nat) := found.flatMap fun pl => (List.range n).map fun i => pl ++ [1 + i]
def allPlM (n : Nat) : Nat → List (List Nat)
  | 0 => [[]]
  | m + 1 => stepPl n (allPlM n m)
theorem len_stepPl (n : Nat) (found : List (List Nat)) : (stepPl n found).length = found.length * n := by
  unfold stepPl
  induction found with
  | nil => simp
  | cons x xs ih =>
    rw [List.flatMap_cons, List.length_append, ih, List.length_map, List.length_range, List.length_cons, Nat.succ_mul]
    omega
theorem len_allPl (n : Nat) : ∀ m, (allPlM n m).length = n ^ m
  | 0 => rfl
  | m + 1 => by
    show (stepPl n (allPlM n m)).length = _
    rw [len_stepPl, len_allPl n m, Nat.pow_succ]
theorem mem_allPl {n : Nat} : ∀ {m : Nat} {pl : List Nat}, pl ∈ allPlM n m → PlOk n m pl
  | 0, pl, h => by
    rw [List.mem_singleton.mp h]
    exact ⟨rfl, fun _ h => nomatch h⟩
  | m + 1, pl, h => by
    obtain ⟨q, hq, h⟩ := List.mem_flatMap.mp h
    obtain ⟨i, hi, rfl⟩ := List.mem_map.mp h
    have o := mem_allPl hq
    refine ⟨by rw [List.length_append, o.len]; rfl, fun x hx => ?_⟩
    rcases List.mem_append.mp hx with z | z
    · exact o.le x z
    · rw [List.mem_singleton.mp z]
      have := List.mem_range.mp hi
      omega
def sp_all_places (K : PySem.W.Frag) (_ : Ads) : Sp := spP K (α := Nat × Nat) (fun a => [.int a.1, .int a.2]) (fun a => a.1 ≤ 10 ∧ a.2 ≤ 4) (fun a d => .lst ((allPlM a.1 a.2).map plD) = d)
section
variable {P : Program} {w : World} {K : PySem.W.Frag} {mg : Str → Option Value} {base : Heap} {G : Ads} {f : Addr} {fd : FuncData}
theorem sc_beyond_rows : FnScope ["ground", "code", "below", "found", "row"] ["ground", "code", "below"] (defScope (top 46)) := ⟨rfl, rfl, rfl, by decide +kernel, rfl, by decide +kernel, by decide +kernel⟩
theorem ok_beyond_rows (F : Df K "beyond_rows" "beyond_rows" (top 46) f fd) (T : Txt K mg G) (c_is_in : Cl P w K mg base 5 "is_in" (sp_is_in K G)) (c_code_of : Cl P w K mg base 5 "code_of" (sp_code_of K G)) : FnOk P w K mg base CX0 6 f fd ["ground", "code", "below"] (sp_beyond_rows K G) := by
  have sc := sc_beyond_rows
  refine F.ok sc (fun vs H Q E h => spP_len h fun _ => rfl) (fun cdv A outer s H vs Q E hr h => ?_)
  refine ⟨_, PSs.nox (pss_cons (ps_set (i := 3) sc.nd rfl (Or.inl rfl) (pe_lst pa_nil)) (pss_cons (ps_for PassesOwn.never rfl (x_sq (K := K) (pv 1)) (pg_name (i := 4) sc.nd rfl (Or.inl rfl)) (pss_cons (ps_if (pt_not (pt_val (pe_cl c_is_in hr (by decide) (by rfl) (pa_cons (pv 0) (pa_cons (pv 2) (pa_cons (pv 4) pa_nil)))))) (pss_cons (ps_expr (x_bm (K := K) PySem.F.plainAttrs_list PySem.F.slot_list_append PySem.F.type_list_append mt_append (pv 3) (pa_cons (pv 4) pa_nil))) (pss_cons (ps_set (i := 2) sc.nd rfl (Or.inl rfl) (pe_cl c_code_of hr (by decide) (by rfl) (pa_cons (pv 0) (pa_cons (pe_lst (x_star (K := K) (pv 2) (pa_cons (pv 4) pa_nil))) pa_nil)))) pss_nil)) pss_nil) pss_nil)) (pss_cons (ps_ret (pv 3)) pss_nil))), ?_⟩
  obtain ⟨⟨⟨p, n⟩, code, below⟩, ⟨g, h1, ec⟩, hargs, k⟩ := h
  have g : Gd p n := g
  have h1 : Rows p n code := h1
  have ec : Ech p n below := ec
  have nle := g.nle
  have cl := h1.1
  have st : At K z0 H [] [some (gr G p n), some (codeD code), some (codeD below), none, none] (L2.start ["ground", "code", "below", "found", "row"] vs) H := at_beg hargs rfl rfl
  refine q_own st (ds := []) (ev_lst ea_nil) inferInstance fun l σ1 H1 nl s1 => ?_
  refine q_for (β := Unit) (I := fun _ i _ => True) (Lf := fun _ i _ => [(l, ((code.take i).foldl (beyStep p n) ([], below)).1.map rowD)]) (Γf := fun _ i _ => [some (gr G p n), some (codeD code), some (codeD ((code.take i).foldl (beyStep p n) ([], below)).2), some (.raw (.ref l)), none]) (is := [4]) (es := fun d => [d]) s1
    (it_tup (ev_var rfl)) (fun _ _ _ _ => gt_name) (fun _ _ _ => rfl) (fun _ _ => ⟨(), trivial, rfl, .keep (.keep (.keep (.keep (.keep .nil))))⟩) ?_ ?_
  · intro items pi i d _ hd _ H2 g2 σ2 H3 s2 N kN
    subst pi
    have hlt : i < code.length := by
      have := (List.getElem?_eq_some_iff.mp hd).1
      rw [List.length_map] at this
      exact this
    have hr : code[i]? = some code[i] := List.getElem?_eq_getElem hlt
    rw [List.getElem?_map, hr] at hd
    cases hd
    have oo := h1.2 _ (List.getElem_mem hlt)
    have tk : (code.take (i + 1)).foldl (beyStep p n) ([], below) = beyStep p n ((code.take i).foldl (beyStep p n) ([], below)) code[i] := by rw [List.take_add_one, hr, Option.toList_some, List.foldl_append]; rfl
    have eb : Ech p n ((code.take i).foldl (beyStep p n) ([], below)).2 := ech_bey g _ _ (fun r hr => h1.2 r (List.mem_of_mem_take hr)) ec
    have lb := len_bey (p := p) (n := n) (code.take i) ([], below)
    rw [List.length_take] at lb
    generalize hs : (code.take i).foldl (beyStep p n) ([], below) = s at *
    obtain ⟨f1, b1⟩ := s
    have fl : f1.length ≤ 400 := by
      simp at lb
      omega
    have el : b1.length ≤ 200 := Nat.le_trans eb.len nle
    refine q_if s2 (EVT.eq (c := !inM p n b1 code[i]) (et_not (et_test (W := wF) (ev_is_in (ea_cons (ev_varW rfl) (ea_cons (ev_varW rfl) (ea_cons (ev_varW rfl) ea_nil))) g (by show b1.length ≤ 400; omega) eb oo))) rfl) (fun hb H5 s5 => ?_) fun hb H5 s5 => ?_
    · have hb : inM p n b1 code[i] = false := by simpa using hb
      have tk2 : beyStep p n (f1, b1) code[i] = (f1 ++ [code[i]], redM p (b1 ++ [code[i]])) := by unfold beyStep; rw [if_neg (by rw [hb]; exact Bool.false_ne_true)]
      refine q_append (n := 0) (l := l) (ds := f1.map rowD) s5 rfl rfl inferInstance (by rw [List.length_map]; omega) (P := Eq (rowD code[i])) (ev_var rfl) (fun d q => q ▸ inferInstance) fun d pd σ6 H6 s6 => ?_
      subst pd
      refine q_asg s6 (ev_code_of (one := b1 ++ [code[i]]) (ea_cons (ev_varW rfl) (ea_cons (EV.eq (ev_lst (ea_star (.tup _) (ev_varW rfl) (ea_cons (ev_varW rfl) ea_nil)) (by rw [List.length_append, List.length_map]; simp; omega)) (by rw [List.map_append]; rfl)) ea_nil)) (.lst _) g (by rw [List.length_append]; simp; omega) fun r hr => (List.mem_append.mp hr).elim (eb.ok r) fun q => by rw [List.mem_singleton.mp q]; exact oo) fun d pd σ7 H7 s7 => ?_
      subst pd
      refine q_next (q_next (kN () σ7 H7 trivial ?_))
      rw [tk, tk2]
      show At K z0 H2 [(l, (f1 ++ [code[i]]).map rowD)] _ _ _
      rw [List.map_append]
      exact s7.less (.keep (.keep (.keep (.keep (.drop .nil)))))
    · have hb : inM p n b1 code[i] = true := by simpa using hb
      refine q_next (q_next (kN () σ2 H5 trivial ?_))
      have tk2 : beyStep p n (f1, b1) code[i] = (f1, b1) := by unfold beyStep; rw [if_pos hb]
      rw [tk, tk2]
      exact s5.less (.keep (.keep (.keep (.keep (.drop .nil)))))
  · intro items pi _ _ σ2 H2 s2
    subst pi
    rw [List.length_map, List.take_length] at s2
    exact q_retOwn (i := 3) (l := l) (ds := (beyondM p n code below).map rowD) s2 (fun q hq => by rw [List.mem_singleton.mp hq]; exact nl) rfl (List.mem_singleton.mpr rfl) k
end
end Wk
end
section
set_option Elab.async false
set_option linter.all false
set_option maxRecDepth 100000
set_option maxHeartbeats 4000000
set_option autoImplicit false
namespace Wk
open PySem L2 Ly Mx
theorem len_meet' {p n : Nat} (g : Gd p n) : ∀ (zs : List (List Code × Nat)) (c : Code), (∀ z ∈ zs, FlagOk p n z.1) → Rows p n c → c.length ≤ n → (zs.foldl (fun code z => commonM p n code (wholeM n z.1 z.2)) c).length ≤ n
  | [], _, _, _, h => h
  | z :: zs, c, o, h, hl => by
    have ec := ech_common g h (rows_whole (i := z.2) g (o z (List.mem_cons_self ..)))
    exact len_meet' g zs _ (fun y hy => o y (List.mem_cons_of_mem _ hy)) (rows_ech g ec) ec.len
theorem len_meet {p n : Nat} {css : List (List Code)} {pl : List Nat} (g : Gd p n) (o : ∀ cs ∈ css, FlagOk p n cs) : (meetM p n css pl).length ≤ n :=
  len_meet' g _ _ (fun z hz => o _ (List.of_mem_zip hz).1) (rows_units g) (by unfold unitsM; rw [List.length_map, List.length_range]; exact Nat.le_refl _)
theorem ech_below' {p n : Nat} {css : List (List Code)} {places : List Nat} (g : Gd p n) (o : ∀ cs ∈ css, FlagOk p n cs) : ∀ (ks : List Nat) (c : Code), Ech p n c → Ech p n (ks.foldl (fun code k => if 0 < places.getD k 0 then joinedM p code (meetM p n css (lessM places k)) else code) c)
  | [], _, h => h
  | k :: ks, c, h => by
    refine ech_below' g o ks _ ?_
    show Ech p n (if 0 < places.getD k 0 then joinedM p c (meetM p n css (lessM places k)) else c)
    split
    · exact ech_joined g (rows_ech g h) (rows_meet g o)
    · exact h
theorem ech_below {p n : Nat} {css : List (List Code)} {places : List Nat} (g : Gd p n) (o : ∀ cs ∈ css, FlagOk p n cs) : Ech p n (belowM p n css places) := ech_below' g o _ _ .nil
abbrev Pair := List Nat × List Int
abbrev pairD (z : Pair) : Dt := .tup [plD z.1, rowD z.2]
def pairsOf (p n : Nat) (css : List (List Code)) (pl : List Nat) : List Pair := (beyondM p n (meetM p n css pl) (belowM p n css pl)).map fun r => (pl, r)
def pairsM (p n : Nat) (css : List (List Code)) : List Pair := (allPlM n css.length).flatMap (pairsOf p n css)
def shareM (p n : Nat) (css : List (List Code)) : Dt := if (pairsM p n css).length = n then .tup [.str "frame", .tup ((pairsM p n css).map fun z => rowD z.2)] else .tup [.str "fresh", .tup (((pairsM p n css).take (n + 1)).map pairD)]
theorem len_pairsOf {p n : Nat} {css : List (List Code)} {pl : List Nat} (g : Gd p n) (o : ∀ cs ∈ css, FlagOk p n cs) : (pairsOf p n css pl).length ≤ n := by
  unfold pairsOf beyondM
  rw [List.length_map]
  have h1 := len_bey (p := p) (n := n) (meetM p n css pl) ([], belowM p n css pl)
  have h2 := len_meet (pl := pl) g o
  simp at h1
  omega
theorem len_flat {α β : Type} {f : α → List β} {m : Nat} : ∀ {xs : List α}, (∀ x ∈ xs, (f x).length ≤ m) → (xs.flatMap f).length ≤ xs.length * m
  | [], _ => by simp
  | x :: xs, h => by
    rw [List.flatMap_cons, List.length_append, List.length_cons, Nat.succ_mul]
    have h1 := h x (List.mem_cons_self ..)
    have h2 := len_flat (m := m) fun y hy => h y (List.mem_cons_of_mem x hy)
    omega
theorem cut_to2 {α : Type} {xs : List α} {n : Nat} : cutD xs none (some (n : Int)) = xs.take n := by
  by_cases q : n ≤ xs.length
  · exact cut_to q
  · unfold cutD
    have e1 : HT.sIx xs.length xs.length (some (n : Int)) = xs.length := by
      unfold HT.sIx
      simp
      rw [if_neg (by omega)]
      omega
    have e2 : HT.sIx xs.length 0 none = 0 := rfl
    rw [e1, e2]
    show xs.take (xs.length - 0) = _
    rw [Nat.sub_zero, List.take_length, List.take_of_length_le (by omega)]
def sp_share (K : PySem.W.Frag) (G : Ads) : Sp := spP K (α := (Nat × Nat) × Bool × List (List Code)) (fun a => [sqD a.2.1 (nsD G a.1.1 a.1.2 a.2.2)]) (fun a => Gd a.1.1 a.1.2 ∧ NsOk a.1.1 a.1.2 a.2.2 ∧ a.1.2 ≤ 10 ∧ a.2.2.length ≤ 4 ∧ a.1.2 ^ a.2.2.length ≤ 10000) (fun a d => shareM a.1.1 a.1.2 a.2.2 = d)
section
variable {P : Program} {w : World} {K : PySem.W.Frag} {mg : Str → Option Value} {base : Heap} {G : Ads} {f : Addr} {fd : FuncData}
variable {Z : Zn} {H0 : Hp} {L : Own} {Γ : Gam} {W : Hp → Addr → Prop} {E : XK} {t : TA} {te : TE} {p n m : Nat} {d : Dt} {css : List (List Code)} {pl : List Nat}
theorem ev_beyond_rows [Wd K Z L W] {code below : Code} (h : EVA K Z H0 L Γ (wW Z) t (Eq [gr G p n, codeD code, codeD below])) (g : Gd p n) (h1 : Rows p n code) (ec : Ech p n below) : EV K Z H0 L Γ W (tCall (sp_beyond_rows K G) [] E t) (Eq (.lst ((beyondM p n code below).map rowD))) := ev_call (x := ((p, n), code, below)) h ⟨g, h1, ec⟩
theorem ev_all_places [Wd K Z L W] (h : EVA K Z H0 L Γ (wW Z) t (Eq [.int n, .int m])) (h1 : n ≤ 10) (h2 : m ≤ 4) : EV K Z H0 L Γ W (tCall (sp_all_places K G) [] E t) (Eq (.lst ((allPlM n m).map plD))) := ev_call (x := (n, m)) h ⟨h1, h2⟩
theorem ev_share [Wd K Z L W] (h : EVA K Z H0 L Γ (wW Z) t (Eq [d])) (hd : IsSq d (nsD G p n css)) (g : Gd p n) (o : NsOk p n css) (h1 : n ≤ 10) (h2 : css.length ≤ 4) (h3 : n ^ css.length ≤ 10000) : EV K Z H0 L Γ W (tCall (sp_share K G) [] E t) (Eq (shareM p n css)) := by
  obtain ⟨b, rfl⟩ := sq_cases hd
  exact ev_call (x := ((p, n), b, css)) h ⟨g, o, h1, h2, h3⟩
end
section
variable {P : Program} {w : World} {K : PySem.W.Frag} {mg : Str → Option Value} {base : Heap} {G : Ads} {f : Addr} {fd : FuncData}
end
end Wk
end
section
set_option Elab.async false
set_option linter.all false
set_option maxRecDepth 100000
set_option maxHeartbeats 4000000
set_option autoImplicit false
namespace Wk
open PySem L2 Ly Mx
/-! ### the law's own rows -/
def sp__law_plus (K : PySem.W.Frag) (_ : Ads) : Sp := spP K (α := Nat × List Int × Int × List Int) (fun a => [.int a.1, rowD a.2.1, .int a.2.2.1, rowD a.2.2.2]) (fun a => 0 < a.1 ∧ a.2.1.length = a.2.2.2.length ∧ a.2.1.length ≤ 10000 ∧ a.2.2.1.natAbs < 2 ^ 64 ∧ ∀ x ∈ a.2.2.2, x.natAbs < 2 ^ 64)
  (fun a d => rowD (plusM a.1 a.2.1 a.2.2.1 a.2.2.2) = d)
def sp__law_units (K : PySem.W.Frag) (_ : Ads) : Sp := spP K (α := Nat) (fun n => [.int n]) (fun n => n < 1000) (fun n d => .lst ((unitsM n).map rowD) = d)
def sp__law_inverse (K : PySem.W.Frag) (_ : Ads) : Sp := spP K (α := Nat × Int) (fun a => [.int a.1, .int a.2]) (fun a => a.1 < 1000 ∧ Pr a.1 ∧ 0 < a.2 ∧ a.2 < a.1) (fun a d => .int ((invM a.1 a.2).getD 0) = d)
def sp__law_pivot (K : PySem.W.Frag) (_ : Ads) : Sp := spP K (α := List Int) (fun r => [rowD r]) (fun r => r.length ≤ 10000) (fun r d => pivD r = d)
def sp__law_reduced (K : PySem.W.Frag) (_ : Ads) : Sp := spP K (α := (Nat × Nat) × Bool × Code) (fun a => [.int a.1.1, sqD a.2.1 (a.2.2.map rowD)]) (fun a => a.1.1 < 1000 ∧ Pr a.1.1 ∧ a.1.2 ≤ 1000 ∧ a.2.2.length ≤ 1000 ∧ ∀ r ∈ a.2.2, Mx.Ok a.1.1 a.1.2 r) (fun a d => codeD (redM a.1.1 a.2.2) = d)
section
variable {P : Program} {w : World} {K : PySem.W.Frag} {mg : Str → Option Value} {base : Heap} {G : Ads} {f : Addr} {fd : FuncData}
variable {Z : Zn} {H0 : Hp} {L : Own} {Γ : Gam} {W : Hp → Addr → Prop} {E : XK} {t : TA} {te : TE} {p n m : Nat} {d : Dt} {r s : List Int} {x : Int}
theorem ev_lplus [Wd K Z L W] (h : EVA K Z H0 L Γ (wW Z) t (Eq [.int p, rowD r, .int x, rowD s])) (h1 : 0 < p) (h2 : r.length = s.length) (h3 : r.length ≤ 10000) (h4 : x.natAbs < 2 ^ 64) (h5 : ∀ x ∈ s, x.natAbs < 2 ^ 64) : EV K Z H0 L Γ W (tCall (sp__law_plus K G) [] E t) (Eq (rowD (plusM p r x s))) := ev_call (x := (p, r, x, s)) h ⟨h1, h2, h3, h4, h5⟩
theorem ev_lunits [Wd K Z L W] (h : EVA K Z H0 L Γ (wW Z) t (Eq [.int n])) (h1 : n < 1000) : EV K Z H0 L Γ W (tCall (sp__law_units K G) [] E t) (Eq (.lst ((unitsM n).map rowD))) := ev_call (x := n) h h1
theorem ev_linv [Wd K Z L W] (h : EVA K Z H0 L Γ (wW Z) t (Eq [.int p, .int x])) (h1 : p < 1000) (h2 : Pr p) (h3 : 0 < x) (h4 : x < p) : EV K Z H0 L Γ W (tCall (sp__law_inverse K G) [] E t) (Eq (.int ((invM p x).getD 0))) := ev_call (x := (p, x)) h ⟨h1, h2, h3, h4⟩
theorem ev_lpivot [Wd K Z L W] (h : EVA K Z H0 L Γ (wW Z) t (Eq [rowD r])) (hl : r.length ≤ 10000) : EV K Z H0 L Γ W (tCall (sp__law_pivot K G) [] E t) (Eq (pivD r)) := ev_call (x := r) h hl
theorem ev_lreduced [Wd K Z L W] {c : Code} (h : EVA K Z H0 L Γ (wW Z) t (Eq [.int p, d])) (hd : IsSq d (c.map rowD)) (h1 : p < 1000) (h2 : Pr p) (hm : m ≤ 1000) (hc : c.length ≤ 1000) (ho : ∀ r ∈ c, Mx.Ok p m r) : EV K Z H0 L Γ W (tCall (sp__law_reduced K G) [] E t) (Eq (codeD (redM p c))) := by
  obtain ⟨b, rfl⟩ := sq_cases hd
  exact ev_call (x := ((p, m), b, c)) h ⟨h1, h2, hm, hc, ho⟩
theorem at_nat {r : List Int} {i : Nat} (h : i < r.length) : atI (r.map Dt.int) (0 + (i : Int)) = some (.int (Mx.e r i)) := by
  rw [Int.zero_add]
  exact at_row h
end
theorem zip_range (f : Int → Int → Int) (r s : List Int) (h : r.length = s.length) : (List.range r.length).map (fun i => f (Mx.e r i) (Mx.e s i)) = List.zipWith f r s := by
  refine List.ext_getElem (by rw [List.length_map, List.length_range, List.length_zipWith]; omega) fun i h1 h2 => ?_
  rw [List.length_map, List.length_range] at h1
  rw [List.getElem_map, List.getElem_range, List.getElem_zipWith, e_lt h1, e_lt (h ▸ h1)]
section
variable {P : Program} {w : World} {K : PySem.W.Frag} {mg : Str → Option Value} {base : Heap} {G : Ads} {f : Addr} {fd : FuncData}
theorem sc__law_plus : FnScope ["_law_p", "_law_one", "_law_times", "_law_other", "_law_k"] ["_law_p", "_law_one", "_law_times", "_law_other"] (defScope (top 54)) := ⟨rfl, rfl, rfl, by decide +kernel, rfl, by decide +kernel, by decide +kernel⟩
theorem ok__law_plus (F : Df K "_law_plus" "_law_plus" (top 54) f fd) (T : Txt K mg G)  : FnOk P w K mg base CX0 1 f fd ["_law_p", "_law_one", "_law_times", "_law_other"] (sp__law_plus K G) := by
  have sc := sc__law_plus
  refine F.ok sc (fun vs H Q E h => spP_len h fun _ => rfl) (fun cdv A outer s H vs Q E hr h => ?_)
  refine ⟨_, PSs.nox (pss_cons (ps_ret (pe_callTy (x_tuple (K := K)) (by rfl) T.f_tuple (by decide +kernel) (pa_cons (pe_lc (own := [("_law_k", 4)]) rfl sc.nd (pi_range1 (by rfl) T.f_range (pa_cons (pe_callB (x_len (K := K)) (by rfl) T.f_len PySem.boot_len (pa_cons (pv 1) pa_nil)) pa_nil)) (blkOk_by (by kernel_rfl)) (fun _ _ _ _ _ => (pg_name (i := 4) sc.nd rfl (by first | exact Or.inl rfl | exact Or.inr rfl))) (fun _ _ _ _ _ => pts_nil) (fun _ _ _ _ _ => (pe_op op_mod (pe_callTy x_int (by rfl) T.f_int (by decide +kernel) (pa_cons (pe_op (x_add (K := K)) (pe_ix (x_ix (K := K)) (pv 1) (pv 4) (fun _ _ => rfl)) (pe_op (x_mulV (K := K)) (pv 2) (pe_ix (x_ix (K := K)) (pv 3) (pv 4) (fun _ _ => rfl)))) pa_nil)) (pv 0)))) pa_nil))) pss_nil), ?_⟩
  obtain ⟨⟨p, r, x, s'⟩, ⟨h1, h2, h3, h4, h5⟩, hargs, k⟩ := h
  have h1 : 0 < p := h1
  have h2 : r.length = s'.length := h2
  have h3 : r.length ≤ 10000 := h3
  have st : At K z0 H [] [some (.int p), some (rowD r), some (.int x), some (rowD s'), none] (L2.start ["_law_p", "_law_one", "_law_times", "_law_other", "_law_k"] vs) H := at_beg hargs rfl rfl
  refine q_ret1 st (EV.eq (ev_cb (ea_cons (ev_lcM (xs := List.range r.length) (h := fun k : Nat => .int (0 + k)) (is := [4]) (es := fun k => [.int (0 + (k : Nat))]) (fn := fun k => .int ((Mx.e r k + x * Mx.e s' k) % p)) (it_r1 (N := Mt z0 []) (n := r.length) (W := wW z0) (ea_cons (EV.eq (ev_cb (ea_cons (ev_varW rfl) ea_nil) (rc_len (.tup _))) (by rw [List.length_map])) ea_nil) (by omega)) (.inl fun _ => Iff.rfl) (by rw [List.length_range]; omega) (fun _ _ => gt_name) (by decide) fun k1 hk => ?_) ea_nil) (rc_tuple (.lst _))) ?_) k
  · have hk := List.mem_range.mp hk
    have sm : (Mx.e s' k1).natAbs < 2 ^ 64 := by rw [e_lt (h2 ▸ hk)]; exact h5 _ (List.getElem_mem _)
    exact ev_op (ev_cb (ea_cons (ev_op (ev_op (ev_varW rfl) (ev_varW rfl) (rr_ixT (at_nat hk))) (ev_op (ev_varW rfl) (ev_op (ev_varW rfl) (ev_varW rfl) (rr_ixT (at_nat (h2 ▸ hk)))) (rr_mulV (small_mul h4 sm))) rr_addI) ea_nil) rc_intI) (ev_varW rfl) (rr_mod (by omega))
  · show Dt.tup _ = Dt.tup _
    unfold plusM
    rw [← zip_range (fun x1 y1 => (x1 + x * y1) % p) r s' h2, List.map_map]
    rfl
theorem sc__law_units : FnScope ["_law_n", "_law_k", "_law_place"] ["_law_n"] (defScope (top 55)) := ⟨rfl, rfl, rfl, by decide +kernel, rfl, by decide +kernel, by decide +kernel⟩
theorem ok__law_units (F : Df K "_law_units" "_law_units" (top 55) f fd) (T : Txt K mg G)  : FnOk P w K mg base CX0 1 f fd ["_law_n"] (sp__law_units K G) := by
  have sc := sc__law_units
  refine F.ok sc (fun vs H Q E h => spP_len h fun _ => rfl) (fun cdv A outer s H vs Q E hr h => ?_)
  refine ⟨_, PSs.nox (pss_cons (ps_ret (pe_lc (own := [("_law_k", 1)]) rfl sc.nd (pi_range1 (by rfl) T.f_range (pa_cons (pv 0) pa_nil)) (blkOk_by (by kernel_rfl)) (fun _ _ _ _ _ => (pg_name (i := 1) sc.nd rfl (by first | exact Or.inl rfl | exact Or.inr rfl))) (fun _ _ _ _ _ => pts_nil) (fun _ _ _ _ _ => (pe_callTy (x_tuple (K := K)) (by rfl) T.f_tuple (by decide +kernel) (pa_cons (pe_lc (own := [("_law_place", 2)]) rfl sc.nd (pi_range1 (by rfl) T.f_range (pa_cons (pv 0) pa_nil)) (blkOk_by (by kernel_rfl)) (fun _ _ _ _ _ => (pg_name (i := 2) sc.nd rfl (by first | exact Or.inl rfl | exact Or.inr rfl))) (fun _ _ _ _ _ => pts_nil) (fun _ _ _ _ _ => (pe_callTy x_int (by rfl) T.f_int (by decide +kernel) (pa_cons (pe_cmpR (x_eq (K := K) hr.units) (pv 1) (pv 2) (nomark _)) pa_nil)))) pa_nil))))) pss_nil), ?_⟩
  obtain ⟨n, hn, hargs, k⟩ := h
  have hn : n < 1000 := hn
  have st : At K z0 H [] [some (.int n), none, none] (L2.start ["_law_n", "_law_k", "_law_place"] vs) H := at_beg hargs rfl rfl
  refine q_ret1 st (EV.eq (ev_lcM (xs := List.range n) (h := fun k : Nat => .int (0 + k)) (is := [1]) (es := fun k => [.int (0 + (k : Nat))]) (fn := fun k => rowD (unitM n k)) (it_r1 (N := Mt z0 []) (n := n) (W := wW z0) (ea_cons (ev_varW rfl) ea_nil) (by omega)) (.inl fun _ => Iff.rfl) (by rw [List.length_range]; omega) (fun _ _ => gt_name) (by decide) fun k1 hk => ?_) ?_) k
  · refine EV.eq (ev_cb (ea_cons (ev_lcM (xs := List.range n) (h := fun k : Nat => .int (0 + k)) (is := [2]) (es := fun k => [.int (0 + (k : Nat))]) (fn := fun c => .int (if k1 = c then 1 else 0)) (it_r1 (N := Mt z0 []) (n := n) (W := wW z0) (ea_cons (ev_varW rfl) ea_nil) (by omega)) (.inl fun _ => Iff.rfl) (by rw [List.length_range]; omega) (fun _ _ => gt_name) (by decide) fun c hc => ?_) ea_nil) (rc_tuple (.lst _))) ?_
    · refine EV.eq (ev_cb (ea_cons (ev_op (ev_varW rfl) (ev_varW rfl) rr_eqI) ea_nil) rc_intB) ?_
      congr 1
      by_cases q : k1 = c
      · subst q; simp
      · rw [if_neg q, if_neg]
        simp
        omega
    · show Dt.tup _ = Dt.tup _
      unfold unitM
      rw [List.map_map]
      rfl
  · unfold unitsM
    rw [List.map_map]
    rfl
theorem sc__law_inverse : FnScope ["_law_p", "_law_number", "_law_k"] ["_law_p", "_law_number"] (defScope (top 56)) := ⟨rfl, rfl, rfl, by decide +kernel, rfl, by decide +kernel, by decide +kernel⟩
theorem ok__law_inverse (F : Df K "_law_inverse" "_law_inverse" (top 56) f fd) (T : Txt K mg G)  : FnOk P w K mg base CX0 1 f fd ["_law_p", "_law_number"] (sp__law_inverse K G) := by
  have sc := sc__law_inverse
  refine F.ok sc (fun vs H Q E h => spP_len h fun _ => rfl) (fun cdv A outer s H vs Q E hr h => ?_)
  refine ⟨_, PSs.nox (pss_cons (ps_ret (pe_ix (x_ix (K := K)) (pe_lc (own := [("_law_k", 2)]) rfl sc.nd (pi_range1 (by rfl) T.f_range (pa_cons (pv 0) pa_nil)) (blkOk_by (by kernel_rfl)) (fun _ _ _ _ _ => (pg_name (i := 2) sc.nd rfl (by first | exact Or.inl rfl | exact Or.inr rfl))) (fun _ _ _ _ _ => (pts_one (pt_cmpR (x_eq (K := K) hr.units) (pe_op op_mod (pe_callTy x_int (by rfl) T.f_int (by decide +kernel) (pa_cons (pe_op (x_mulV (K := K)) (pv 2) (pv 1)) pa_nil)) (pv 0)) pe_int (nomark _)))) (fun _ _ _ _ _ => (pv 2))) pe_int (fun _ _ => rfl))) pss_nil), ?_⟩
  obtain ⟨⟨p, x⟩, ⟨hp, pr, x0, xp⟩, hargs, k⟩ := h
  have hp : p < 1000 := hp
  have pr : Pr p := pr
  have x0 : 0 < x := x0
  have xp : x < p := xp
  have p2 := pr.two
  have st : At K z0 H [] [some (.int p), some (.int x), none] (L2.start ["_law_p", "_law_number", "_law_k"] vs) H := at_beg hargs rfl rfl
  obtain ⟨y, hy, _, _, _⟩ := pr.invM x0 xp
  have hf := invM_range p2 x
  rw [hy] at hf
  have hh : (((List.range p).filter fun i : Nat => decide ((i : Int) * x % p = 1)).map fun i : Nat => Dt.int (0 + (i : Int)))[0]? = some (.int y) := by
    have e1 : ((List.range p).filter fun i : Nat => decide ((i : Int) * x % p = 1)).map (fun i : Nat => (i : Int)) = ((List.range p).map fun i : Nat => (i : Int)).filter fun z => decide (z * x % p = 1) := by
      rw [List.filter_map]
      rfl
    have e2 : (((List.range p).map fun i : Nat => (i : Int)).filter fun z => decide (z * x % p = 1))[0]? = some y := by
      rw [← List.head?_eq_getElem?, List.head?_filter]
      exact hf
    rw [← e1, List.getElem?_map] at e2
    rw [List.getElem?_map]
    cases q : ((List.range p).filter fun i : Nat => decide ((i : Int) * x % p = 1))[0]? with
    | none => rw [q] at e2; cases e2
    | some z =>
      rw [q] at e2
      have this : (z : Int) = y := Option.some.inj e2
      show some (Dt.int (0 + (z : Int))) = _
      rw [Int.zero_add, this]
  refine q_ret1 st (EV.eq (ev_op (ev_lc (xs := List.range p) (h := fun k : Nat => .int (0 + k)) (is := [2]) (es := fun k => [.int (0 + (k : Nat))]) (p := fun i : Nat => decide ((i : Int) * x % p = 1)) (fn := fun i : Nat => Dt.int (0 + (i : Int))) (it_r1 (N := Mt z0 []) (n := p) (W := wW z0) (ea_cons (ev_varW rfl) ea_nil) (by omega)) (.inl fun _ => Iff.rfl) (by rw [List.length_range]; omega) (fun _ _ => gt_name) (by decide) (fun k1 hk => ?_) fun k1 hk _ => (ev_var rfl).imm) ev_int (rr_ixL (ix_nat (by decide) hh))) (by rw [hy]; rfl)) k
  have hk := List.mem_range.mp hk
  refine EVT.eq (et_B (W := wF) (ev_op (ev_op (ev_cb (ea_cons (ev_op (ev_varW rfl) (ev_varW rfl) (rr_mulV (small_mul (by omega) (by omega)))) ea_nil) rc_intI) (ev_varW rfl) (rr_mod (by omega))) ev_int rr_eqI)) (by rw [Int.zero_add])
theorem sc__law_pivot : FnScope ["_law_row", "_law_found", "_law_k"] ["_law_row"] (defScope (top 57)) := ⟨rfl, rfl, rfl, by decide +kernel, rfl, by decide +kernel, by decide +kernel⟩
theorem ok__law_pivot (F : Df K "_law_pivot" "_law_pivot" (top 57) f fd) (T : Txt K mg G)  : FnOk P w K mg base CX0 1 f fd ["_law_row"] (sp__law_pivot K G) := by
  have sc := sc__law_pivot
  refine F.ok sc (fun vs H Q E h => spP_len h fun _ => rfl) (fun cdv A outer s H vs Q E hr h => ?_)
  refine ⟨_, PSs.nox (pss_cons (ps_setLc (i := 1) (own := [("_law_k", 2)]) rfl sc.nd rfl rfl (sw_true rfl rfl rfl (by decide +kernel)) (pi_range1 (by rfl) T.f_range (pa_cons (pe_callB (x_len (K := K)) (by rfl) T.f_len PySem.boot_len (pa_cons (pv 0) pa_nil)) pa_nil)) (blkOk_by (by kernel_rfl)) (fun _ _ _ _ _ => (pg_name (i := 2) sc.nd rfl (by first | exact Or.inl rfl | exact Or.inr rfl))) (fun _ _ _ _ _ => (pts_one (pt_cmpR (x_ne (K := K) hr.units) (pe_ix (x_ix (K := K)) (pv 0) (pv 2) (fun _ _ => rfl)) pe_int (nomark _)))) (fun _ _ _ _ _ => (pv 2))) (pss_cons (ps_ret (pe_ifExp (pt_cmpR (x_ne (K := K) hr.units) (pv 1) (pe_lst pa_nil) (nomark _)) (pe_ix (x_ix (K := K)) (pv 1) pe_int (fun _ _ => rfl)) pe_non)) pss_nil)), ?_⟩
  obtain ⟨r, hl, hargs, k⟩ := h
  have hl : r.length ≤ 10000 := hl
  have st : At K z0 H [] [some (rowD r), none, none] (L2.start ["_law_row", "_law_found", "_law_k"] vs) H := at_beg hargs rfl rfl
  let fs : List Int := ((List.range r.length).filter fun i => decide (Mx.e r i ≠ 0)).map fun i : Nat => (i : Int)
  refine q_asg st (EV.eq (ev_lc (xs := List.range r.length) (h := fun k : Nat => .int (0 + k)) (is := [2]) (es := fun k => [.int (0 + (k : Nat))]) (p := fun i : Nat => decide (Mx.e r i ≠ 0)) (fn := fun i : Nat => Dt.int (i : Int)) (it_r1 (N := Mt z0 []) (n := r.length) (W := wW z0) (ea_cons (EV.eq (ev_cb (ea_cons (ev_varW rfl) ea_nil) (rc_len (.tup _))) (by rw [List.length_map])) ea_nil) (by omega)) (.inl fun _ => Iff.rfl) (by rw [List.length_range]; omega) (fun _ _ => gt_name) (by decide) (fun k1 hk => ?_) fun k1 hk _ => (EV.eq (ev_var rfl) (by rw [Int.zero_add])).imm) (e := lstD fs) (by show Dt.lst _ = Dt.lst _; rw [List.map_map]; rfl)) fun d pd σ1 H1 s1 => ?_
  · have hk := List.mem_range.mp hk
    refine EVT.eq (et_B (W := wF) (ev_op (ev_op (ev_varW rfl) (ev_varW rfl) (rr_ixT (at_nat hk))) ev_int rr_neI)) ?_
    simp
  · subst pd
    have hfs : fs[0]? = (pivM r).map fun i : Nat => (i : Int) := by
      show (((List.range r.length).filter fun i => decide (Mx.e r i ≠ 0)).map fun i : Nat => (i : Int))[0]? = _
      rw [List.getElem?_map, ← List.head?_eq_getElem?, List.head?_filter]
      congr 1
      cases q : pivM r with
      | none =>
        rw [List.find?_eq_none]
        intro x _
        simp [piv_none.mp q x]
      | some i =>
        have hi := piv_some.mp q
        refine Mx.find_hit (i := i) (fun j y hj hy => ?_) (by rw [List.getElem?_range hi.lt]) (by simpa using hi.1)
        rw [List.getElem?_range (Nat.lt_trans hj hi.lt)] at hy
        cases hy
        simp [hi.2 _ hj]
    refine q_ret1 (P := Eq (pivD r)) s1 (ev_if (EVT.eq (c := !decide (fs = [])) (et_B (W := wF) (ev_op (ev_varW rfl) (ev_lst ea_nil) (rr_neLI (s := [])))) rfl) (fun hb => ?_) fun hb => ?_) k
    · cases q : pivM r with
      | none =>
        rw [q] at hfs
        have : fs = [] := by
          cases hh : fs with
          | nil => rfl
          | cons a b => rw [hh] at hfs; cases hfs
        rw [this] at hb
        cases hb
      | some i =>
        rw [q] at hfs
        refine EV.eq (ev_op (ev_varW rfl) ev_int (rr_ixL (d := .int (i : Nat)) (ix_nat (by decide) (by rw [List.getElem?_map]; show Option.map _ fs[0]? = _; rw [hfs]; rfl)))) ?_
        unfold pivD
        rw [q]
    · have hb : fs = [] := by simpa using hb
      refine EV.eq ev_non ?_
      rw [hb] at hfs
      cases q : pivM r with
      | none => unfold pivD; rw [q]
      | some i => rw [q] at hfs; cases hfs
theorem sc__law_reduced : FnScope ["_law_p", "_law_rows", "_law_found", "_law_row", "_law_one", "_law_place"] ["_law_p", "_law_rows"] (defScope (top 58)) := ⟨rfl, rfl, rfl, by decide +kernel, rfl, by decide +kernel, by decide +kernel⟩
theorem ok__law_reduced (F : Df K "_law_reduced" "_law_reduced" (top 58) f fd) (T : Txt K mg G) (c__law_plus : Cl P w K mg base 1 "_law_plus" (sp__law_plus K G)) (c__law_pivot : Cl P w K mg base 1 "_law_pivot" (sp__law_pivot K G)) (c__law_inverse : Cl P w K mg base 1 "_law_inverse" (sp__law_inverse K G)) : FnOk P w K mg base CX0 2 f fd ["_law_p", "_law_rows"] (sp__law_reduced K G) := by
  have sc := sc__law_reduced
  refine F.ok sc (fun vs H Q E h => spP_len h fun _ => rfl) (fun cdv A outer s H vs Q E hr h => ?_)
  refine ⟨_, PSs.nox (pss_cons (ps_set (i := 2) sc.nd rfl (Or.inl rfl) (pe_lst pa_nil)) (pss_cons (ps_for PassesOwn.never rfl (x_sq (K := K) (pv 1)) (pg_name (i := 3) sc.nd rfl (Or.inr rfl)) (pss_cons (ps_for PassesOwn.never rfl (x_sq (K := K) (pv 2)) (pg_name (i := 4) sc.nd rfl (Or.inl rfl)) (pss_cons (ps_set (i := 3) sc.nd rfl (Or.inr rfl) (pe_cl c__law_plus hr (by decide) (by rfl) (pa_cons (pv 0) (pa_cons (pv 3) (pa_cons (pe_op op_sub pe_int (pe_ix (x_ix (K := K)) (pv 3) (pe_cl c__law_pivot hr (by decide) (by rfl) (pa_cons (pv 4) pa_nil)) (fun _ _ => rfl))) (pa_cons (pv 4) pa_nil)))))) pss_nil)) (pss_cons (ps_set (i := 5) sc.nd rfl (Or.inr rfl) (pe_cl c__law_pivot hr (by decide) (by rfl) (pa_cons (pv 3) pa_nil))) (pss_cons (ps_if (pt_cmpR op_notN (pv 5) pe_non (nomark _)) (pss_cons (ps_set (i := 3) sc.nd rfl (Or.inr rfl) (pe_cl c__law_plus hr (by decide) (by rfl) (pa_cons (pv 0) (pa_cons (pe_op (x_mulV (K := K)) (pe_tup (pa_cons pe_int pa_nil)) (pe_callB (x_len (K := K)) (by rfl) T.f_len PySem.boot_len (pa_cons (pv 3) pa_nil))) (pa_cons (pe_cl c__law_inverse hr (by decide) (by rfl) (pa_cons (pv 0) (pa_cons (pe_ix (x_ix (K := K)) (pv 3) (pv 5) (fun _ _ => rfl)) pa_nil))) (pa_cons (pv 3) pa_nil)))))) (pss_cons (ps_set (i := 2) sc.nd rfl (Or.inl rfl) (pe_op (x_add (K := K)) (pe_lc (own := [("_law_one", 4)]) rfl sc.nd (x_sq (K := K) (pv 2)) (blkOk_by (by kernel_rfl)) (fun _ _ _ _ _ => (pg_name (i := 4) sc.nd rfl (by first | exact Or.inl rfl | exact Or.inr rfl))) (fun _ _ _ _ _ => pts_nil) (fun _ _ _ _ _ => (pe_cl c__law_plus hr (by decide) (by rfl) (pa_cons (pv 0) (pa_cons (pv 4) (pa_cons (pe_op op_sub pe_int (pe_ix (x_ix (K := K)) (pv 4) (pv 5) (fun _ _ => rfl))) (pa_cons (pv 3) pa_nil))))))) (pe_lst (pa_cons (pv 3) pa_nil)))) pss_nil)) pss_nil) pss_nil)))) (pss_cons (ps_ret (pe_callTy (x_tuple (K := K)) (by rfl) T.f_tuple (by decide +kernel) (pa_cons (x_rev (K := K) (pe_callB (x_sorted (K := K) hr.units) (by rfl) T.f_sorted (by decide +kernel) (pa_cons (pv 2) pa_nil))) pa_nil))) pss_nil))), ?_⟩
  obtain ⟨⟨⟨p, m⟩, b, rows⟩, ⟨hp, pr, hm, hc, o⟩, hargs, k⟩ := h
  have hp : p < 1000 := hp
  have pr : Pr p := pr
  have p0 : 0 < p := Nat.lt_of_lt_of_le (by decide) pr.two
  have hm : m ≤ 1000 := hm
  have hc : rows.length ≤ 1000 := hc
  have o : ∀ r ∈ rows, Mx.Ok p m r := o
  generalize hR : sqD b (rows.map rowD) = R
  have hq : IsSq R (rows.map rowD) := hR ▸ sq_is b _
  have st : At K z0 H [] [some (.int p), some R, none, none, none, none] (L2.start ["_law_p", "_law_rows", "_law_found", "_law_row", "_law_one", "_law_place"] vs) H := at_beg hargs (by rw [← hR]; rfl) rfl
  refine q_asg st (ev_lst ea_nil) fun d pd σ1 H1 s1 => ?_
  subst pd
  refine q_for (β := Unit) (I := fun _ i _ => True) (Lf := fun _ _ _ => []) (Γf := fun _ i _ => [some (.int p), some R, some (.lst (((rows.take i).foldl (addM p) []).map rowD)), none, none, none]) (is := [3]) (es := fun d => [d]) s1 (it_sq hq (ev_var rfl)) (fun _ _ _ _ => gt_name) (fun _ _ _ => rfl) (fun _ _ => ⟨(), trivial, rfl, .keep (.keep (.keep (.keep (.keep (.keep .nil)))))⟩) ?_ ?_
  · intro items pi i d _ hd _ H2 g2 σ2 H3 s2 N kN
    subst pi
    have hlt : i < rows.length := by
      have := (List.getElem?_eq_some_iff.mp hd).1
      rw [List.length_map] at this
      exact this
    have hr : rows[i]? = some rows[i] := List.getElem?_eq_getElem hlt
    rw [List.getElem?_map, hr] at hd
    cases hd
    have tk : rows.take (i + 1) = rows.take i ++ [rows[i]] := by rw [List.take_add_one, hr]; rfl
    have tk2 : (rows.take (i + 1)).foldl (addM p) [] = addM p ((rows.take i).foldl (addM p) []) rows[i] := by rw [tk, List.foldl_append]; rfl
    have ec : Ech p m ((rows.take i).foldl (addM p) []) := raw_ech' pr .nil fun r hr => o r (List.mem_of_mem_take hr)
    have fl : ((rows.take i).foldl (addM p) []).length ≤ 1000 := Nat.le_trans ec.len hm
    generalize (rows.take i).foldl (addM p) [] = found at *
    generalize hrow : rows[i] = row at *
    have oR : Mx.Ok p m row := by rw [← hrow]; exact o _ (List.getElem_mem hlt)
    have ol : Mx.Ok p m (withoutM p row found) := Mx.ok_without p0 oR fun r hr => (ec.ok r hr).len
    refine q_for (β := Unit) (I := fun _ i _ => True) (Lf := fun _ _ _ => []) (Γf := fun _ j _ => [some (.int p), some R, some (.lst (found.map rowD)), some (rowD (withoutM p row (found.take j))), none, none]) (is := [4]) (es := fun d => [d]) s2 (it_lst (ev_var rfl)) (fun _ _ _ _ => gt_name) (fun _ _ _ => rfl) (fun _ _ => ⟨(), trivial, rfl, .keep (.keep (.keep (.keep (.keep (.keep .nil)))))⟩) ?_ ?_
    · intro items pi j d _ hd _ H4 g4 σ4 H5 s4 N2 kN2
      subst pi
      have hlt2 : j < found.length := by
        have := (List.getElem?_eq_some_iff.mp hd).1
        rw [List.length_map] at this
        exact this
      have hr2 : found[j]? = some found[j] := List.getElem?_eq_getElem hlt2
      rw [List.getElem?_map, hr2] at hd
      cases hd
      have oj : Mx.Ok p m (withoutM p row (found.take j)) := Mx.ok_without p0 oR fun r hr => (ec.ok r (List.mem_of_mem_take hr)).len
      have oo := ec.ok _ (List.getElem_mem hlt2)
      obtain ⟨q, hq1, _⟩ := ec.one _ (List.getElem_mem hlt2)
      have pd : pivD found[j] = .int q := by unfold pivD; rw [piv_some.mpr hq1]
      have hw : withoutM p row (found.take (j + 1)) = plusM p (withoutM p row (found.take j)) (0 - Mx.e (withoutM p row (found.take j)) q) found[j] := by
        rw [plus_step oj.len oo.len hq1, List.take_add_one, hr2]
        unfold withoutM
        rw [Option.toList_some, List.foldl_append]
        rfl
      have eb := oj.e p0 q
      refine q_asg s4 (ev_lplus (ea_cons (ev_varW rfl) (ea_cons (ev_varW rfl) (ea_cons (ev_op ev_int (ev_op (ev_varW rfl) (EV.eq (ev_lpivot (ea_cons (ev_varW rfl) ea_nil) (by rw [oo.len]; omega)) pd) (rr_ixT (at_row (by rw [oj.len, ← oo.len]; exact hq1.lt)))) rr_sub) (ea_cons (ev_varW rfl) ea_nil)))) p0 (oj.len.trans oo.len.symm) (by rw [oj.len]; omega) (by omega) (oo.small hp)) fun d pd σ6 H6 s6 => ?_
      subst pd
      refine q_next (kN2 () σ6 H6 trivial ?_)
      rw [hw]
      exact s6.less (.keep (.keep (.keep (.keep (.drop (.keep .nil))))))
    · intro items pi _ _ σ4 H4 s4
      subst pi
      rw [List.length_map, List.take_length] at s4
      refine q_asg s4 (EV.imm (i := imm_pivD _) (ev_lpivot (W := wF) (ea_cons (ev_varW rfl) ea_nil) (by rw [ol.len]; omega))) fun d pd σ5 H5 s5 => ?_
      subst pd
      refine q_if s5 (et_B (W := wF) (ev_op (ev_varW rfl) ev_non rr_notN)) (fun hb H6 s6 => ?_) fun hb H6 s6 => ?_
      · cases q : pivM (withoutM p row found) with
        | none =>
          unfold pivD at hb
          rw [q] at hb
          cases hb
        | some j =>
          have hj := piv_some.mp q
          have pd : pivD (withoutM p row found) = .int j := by unfold pivD; rw [q]
          obtain ⟨x, x1, x2, x3, on, pn, oi⟩ := new_row pr ol hj
          have hx := add_some q
          rw [x1] at hx
          have hx : addM p found row = found.map (fun own => stepM p own (scM p x (withoutM p row found))) ++ [scM p x (withoutM p row found)] := hx
          have ej := ol.e p0 j
          have ejn := hj.1
          rw [pd] at s6
          have pz : plusM p (List.replicate m 0) x (withoutM p row found) = scM p x (withoutM p row found) := by rw [← ol.len]; exact plus_zero
          refine q_asg s6 (ev_lplus (r := List.replicate m 0) (x := x) (ea_cons (ev_varW rfl) (ea_cons (EV.eq (ev_op (ev_tup (ea_cons ev_int ea_nil)) (ev_cb (ea_cons (ev_varW rfl) ea_nil) (rc_len (.tup _))) (rr_mulZ (by omega) (by rw [List.length_map, ol.len]; omega))) (by rw [List.length_map, ol.len, Int.toNat_natCast]; try (unfold rowD; rw [List.map_replicate]))) (ea_cons (EV.eq (ev_linv (ea_cons (ev_varW rfl) (ea_cons (ev_op (ev_varW rfl) (ev_varW rfl) (rr_ixT (at_row hj.lt))) ea_nil)) hp pr (by omega) ej.2) (by rw [x1]; rfl)) (ea_cons (ev_varW rfl) ea_nil)))) p0 (by rw [List.length_replicate, ol.len]) (by rw [List.length_replicate]; omega) (by omega) (ol.small hp)) fun d pd2 σ7 H7 s7 => ?_
          subst pd2
          rw [pz] at s7
          generalize hnew : scM p x (withoutM p row found) = new at *
          refine q_asg s7 (EV.eq (ev_op (ev_lcM (xs := found) (h := rowD) (is := [4]) (es := fun r => [rowD r]) (fn := fun own => rowD (stepM p own new)) (it_lst (N := Mt z0 []) (ev_var rfl)) (.inl fun _ => Iff.rfl) (by omega) (fun _ _ => gt_name) (by decide) fun own hown => ?_) (ev_lst (ea_cons (ev_varW rfl) ea_nil)) (rr_addL (by rw [List.length_map]; simp; omega))) (e := .lst ((addM p found row).map rowD)) ?_) fun d pd3 σ8 H8 s8 => ?_
          · have oo := ec.ok own hown
            have eo := oo.e p0 j
            refine EV.eq (ev_lplus (ea_cons (ev_varW rfl) (ea_cons (ev_varW rfl) (ea_cons (ev_op ev_int (ev_op (ev_varW rfl) (ev_varW rfl) (rr_ixT (at_row (by rw [oo.len, ← on.len]; exact pn.lt)))) rr_sub) (ea_cons (ev_varW rfl) ea_nil)))) p0 (oo.len.trans on.len.symm) (by rw [oo.len]; omega) (by omega) (on.small hp)) ?_
            rw [plus_step oo.len on.len pn]
          · rw [hx, List.map_append, List.map_map]
            rfl
          · subst pd3
            refine q_next (q_next (kN () σ8 H8 trivial ?_))
            rw [tk2]
            exact s8.less (.keep (.keep (.keep (.drop (.keep (.drop .nil))))))
      · cases q : pivM (withoutM p row found) with
        | some j =>
          unfold pivD at hb
          rw [q] at hb
          cases hb
        | none =>
          refine q_next (q_next (kN () σ5 H6 trivial ?_))
          rw [tk2, add_none q]
          exact s6.less (.keep (.keep (.keep (.drop (.keep (.drop .nil))))))
  · intro items pi _ _ σ2 H2 s2
    subst pi
    rw [List.length_map, List.take_length] at s2
    have ec : Ech p m (rawM p rows) := raw_ech pr o
    refine q_ret1 (P := Eq (codeD (redM p rows))) s2 (EV.eq (ev_cb (ea_cons (ev_rev (ev_cb (ea_cons (ev_varW rfl) ea_nil) (rc_sortR (rev := false) fun r hr => ?_))) ea_nil) (rc_tuple (.lst _))) ?_) k
    · obtain ⟨i, hi, _⟩ := ec.one r hr
      exact fun z => by rw [z] at hi; exact absurd hi.lt (Nat.not_lt_zero _)
    · unfold redM
      rw [← srt_rev, ← List.map_reverse]
      rfl
end
end Wk
end
section
set_option Elab.async false
set_option linter.all false
set_option maxRecDepth 100000
set_option maxHeartbeats 4000000
set_option autoImplicit false
namespace Wk
open PySem L2 Ly Mx
def grD (G : Ads) (p n : Nat) : Dt := .dct [(ks "p", .int p), (ks "n", .int n), (ks "made", gr G p n)]
abbrev csD (cs : List Code) : Dt := .tup (cs.map codeD)
abbrev lnD (css : List (List Code)) : Dt := .lst (css.map csD)
def wholeL (n : Nat) (cs : List Code) : List Code := ([] :: cs) ++ if 0 < n then [unitsM n] else []
def codesM (p : Nat) (base : Code) : List Code := (List.range (base.length - 1)).map fun i => redM p (base.take (1 + i))
def secondM (base : Code) (order : List Nat) : Code := (List.range order.length).map fun j => base.getD (order.idxOf j) []
def stepDig (n : Nat) (found : List (List Nat)) : List (List Nat) := found.flatMap fun pl => (List.range n).map fun i => pl ++ [i]
def digM (n : Nat) : Nat → List (List Nat)
  | 0 => [[]]
  | m + 1 => stepDig n (digM n m)
theorem dig_pl (n : Nat) : ∀ m, (digM n m).map (fun d => d.map (· + 1)) = allPlM n m
  | 0 => rfl
  | m + 1 => by
    show (stepDig n (digM n m)).map _ = stepPl n (allPlM n m)
    rw [← dig_pl n m]
    unfold stepDig stepPl
    rw [List.map_flatMap, List.flatMap_map]
    congr 1
    funext d
    rw [List.map_map]
    congr 1
    funext i
    simp
    omega
theorem len_stepDig (n : Nat) (found : List (List Nat)) : (stepDig n found).length = found.length * n := by
  unfold stepDig
  induction found with
  | nil => simp
  | cons x xs ih =>
    rw [List.flatMap_cons, List.length_append, ih, List.length_map, List.length_range, List.length_cons, Nat.succ_mul]
    omega
theorem len_dig (n : Nat) : ∀ m, (digM n m).length = n ^ m
  | 0 => rfl
  | m + 1 => by
    show (stepDig n (digM n m)).length = _
    rw [len_stepDig, len_dig n m, Nat.pow_succ]
theorem dig_len {n : Nat} : ∀ {m : Nat} {pl : List Nat}, pl ∈ digM n m → pl.length = m
  | 0, pl, h => by rw [List.mem_singleton.mp h]; rfl
  | m + 1, pl, h => by
    obtain ⟨q, hq, h⟩ := List.mem_flatMap.mp h
    obtain ⟨i, hi, rfl⟩ := List.mem_map.mp h
    rw [List.length_append, dig_len hq]
    rfl
theorem whole_at {n i : Nat} {cs : List Code} (hl : cs.length = n - 1) (hi : i ≤ n) : (wholeL n cs)[i]? = some (wholeM n cs i) := by
  unfold wholeL wholeM
  by_cases q : i = 0
  · subst q
    rw [if_pos rfl]
    rfl
  · rw [if_neg q, if_pos (by omega)]
    by_cases q2 : i = n
    · rw [if_pos q2, List.getElem?_append_right (by rw [List.length_cons]; omega), List.length_cons, show i - (cs.length + 1) = 0 by omega]
      rfl
    · rw [if_neg q2, List.getElem?_append_left (by rw [List.length_cons]; omega)]
      obtain ⟨j, rfl⟩ : ∃ j, i = j + 1 := ⟨i - 1, by omega⟩
      rw [List.getElem?_cons_succ, Nat.add_sub_cancel, List.getD_eq_getElem?_getD, List.getElem?_eq_getElem (by omega)]
      rfl
theorem late_eq {p n : Nat} {c : Code} (h : Ech p (2 * n) c) : c.filter (fun r => decide (r.take n = zeroM n)) = lateM n c := by
  unfold lateM
  refine List.filter_congr fun r hr => ?_
  obtain ⟨i, hi, _⟩ := h.one r hr
  have o := h.ok r hr
  rw [piv_some.mpr hi]
  refine decide_eq_decide.mpr ⟨fun q => ?_, fun q => ?_⟩
  · show n ≤ i
    rcases Nat.lt_or_ge i n with z | z
    · exfalso
      refine hi.1 ?_
      rw [e_lt hi.lt]
      have hil := hi.lt
      have h2 : (r.take n)[i]? = some r[i] := by rw [List.getElem?_take_of_lt z, List.getElem?_eq_getElem hil]
      rw [q] at h2
      unfold zeroM at h2
      rw [List.getElem?_replicate, if_pos z] at h2
      exact (Option.some.inj h2).symm
    · exact z
  · have q : n ≤ i := q
    refine List.ext_getElem (by unfold zeroM; rw [List.length_take, List.length_replicate, o.len]; omega) fun j h1 h2 => ?_
    rw [List.length_take] at h1
    have hz : (zeroM n)[j] = 0 := List.getElem_replicate ..
    rw [hz, List.getElem_take, ← e_lt (by omega)]
    exact hi.2 j (by omega)
def sp__law_common (K : PySem.W.Frag) (_ : Ads) : Sp := spP K (α := (Nat × Nat) × Code × Code) (fun a => [.int a.1.1, .int a.1.2, codeD a.2.1, codeD a.2.2]) (fun a => Gd a.1.1 a.1.2 ∧ Rows a.1.1 a.1.2 a.2.1 ∧ Rows a.1.1 a.1.2 a.2.2) (fun a d => codeD (commonM a.1.1 a.1.2 a.2.1 a.2.2) = d)
def sp__law_joined (K : PySem.W.Frag) (_ : Ads) : Sp := spP K (α := (Nat × Nat) × Code × Code) (fun a => [.int a.1.1, codeD a.2.1, codeD a.2.2]) (fun a => Gd a.1.1 a.1.2 ∧ Rows a.1.1 a.1.2 a.2.1 ∧ Rows a.1.1 a.1.2 a.2.2) (fun a d => codeD (joinedM a.1.1 a.2.1 a.2.2) = d)
def sp__law_codes (K : PySem.W.Frag) (_ : Ads) : Sp := spP K (α := (Nat × Nat) × Code) (fun a => [.int a.1.1, .lst (a.2.map rowD)]) (fun a => Gd a.1.1 a.1.2 ∧ Rows a.1.1 a.1.2 a.2) (fun a d => .lst ((codesM a.1.1 a.2).map codeD) = d)
def sp__law_whole (K : PySem.W.Frag) (_ : Ads) : Sp := spP K (α := Nat × Bool × List Code) (fun a => [sqD a.2.1 (a.2.2.map codeD), .int a.1]) (fun a => a.1 ≤ 200 ∧ a.2.2.length ≤ 1000) (fun a d => .lst ((wholeL a.1 a.2.2).map codeD) = d)
structure SecOk (base : Code) (order : List Nat) : Prop where
  len : base.length = order.length
  le : order.length ≤ 200
  all : ∀ j, j < order.length → j ∈ order
def sp__law_second (K : PySem.W.Frag) (_ : Ads) : Sp := fun vs H Q _ => ∃ (base : Code) (order : List Nat) (a : Addr) (v : V), vs = [v, .ref a] ∧ SecOk base order ∧ Is K (fun _ => False) H (.lst (base.map rowD)) v ∧ TupF H a ((order.map fun i : Nat => (i : Int)).map V.int) ∧
  ∀ d v H', .lst ((secondM base order).map rowD) = d → Ex H H' → Is K (fun b => H b ≠ none) H' d v → Q v H'
theorem len_second {K : PySem.W.Frag} {G : Ads} {vs : List V} {H : Hp} {Q : VK} {E : XK} (h : sp__law_second K G vs H Q E) (_ : ∀ _ : Unit, () = ()) : vs.length = 2 := by
  obtain ⟨_, _, _, _, rfl, _⟩ := h
  rfl
def DigOk (n m : Nat) : Prop := n ≤ 20 ∧ m ≤ 20 ∧ n ^ m ≤ 10000
theorem DigOk.small {n m : Nat} (h1 : n ≤ 10) (h2 : m ≤ 4) : DigOk n m := ⟨by omega, by omega, Nat.le_trans (Nat.pow_le_pow_left h1 _) (Nat.le_trans (Nat.pow_le_pow_right (by decide) h2) (by decide))⟩
theorem DigOk.pow {n m i : Nat} (h : DigOk n m) (hi : i ≤ m) : n ^ i ≤ 10000 := by
  rcases Nat.eq_zero_or_pos n with q | q
  · subst q
    exact Nat.le_trans (Nat.pow_le_pow_left (show 0 ≤ 1 by decide) i) (by rw [Nat.one_pow]; decide)
  · exact Nat.le_trans (Nat.pow_le_pow_right q hi) h.2.2
def sp__law_digits (K : PySem.W.Frag) (_ : Ads) : Sp := spP K (α := Nat × Nat) (fun a => [.int a.1, .int a.2]) (fun a => DigOk a.1 a.2) (fun a d => .lst ((digM a.1 a.2).map plD) = d)
def sp__law_all_places (K : PySem.W.Frag) (_ : Ads) : Sp := spP K (α := Nat × Nat) (fun a => [.int a.1, .int a.2]) (fun a => a.1 ≤ 10 ∧ a.2 ≤ 4) (fun a d => .lst ((allPlM a.1 a.2).map plD) = d)
structure LnOk (p n : Nat) (css : List (List Code)) : Prop where
  le : css.length ≤ 100
  ok : ∀ cs ∈ css, FlagOk p n cs
def sp__law_meet (K : PySem.W.Frag) (G : Ads) : Sp := spP K (α := (Nat × Nat) × List (List Code) × List Nat) (fun a => [grD G a.1.1 a.1.2, lnD a.2.1, plD a.2.2]) (fun a => Gd a.1.1 a.1.2 ∧ LnOk a.1.1 a.1.2 a.2.1 ∧ PlOk a.1.2 a.2.1.length a.2.2) (fun a d => codeD (meetM a.1.1 a.1.2 a.2.1 a.2.2) = d)
def sp__law_below (K : PySem.W.Frag) (G : Ads) : Sp := spP K (α := (Nat × Nat) × List (List Code) × List Nat) (fun a => [grD G a.1.1 a.1.2, lnD a.2.1, plD a.2.2]) (fun a => Gd a.1.1 a.1.2 ∧ LnOk a.1.1 a.1.2 a.2.1 ∧ PlOk a.1.2 a.2.1.length a.2.2) (fun a d => codeD (belowM a.1.1 a.1.2 a.2.1 a.2.2) = d)
def sp__law_fresh (K : PySem.W.Frag) (G : Ads) : Sp := spP K (α := (Nat × Nat) × List (List Code) × List Nat) (fun a => [grD G a.1.1 a.1.2, lnD a.2.1, plD a.2.2]) (fun a => Gd a.1.1 a.1.2 ∧ LnOk a.1.1 a.1.2 a.2.1 ∧ PlOk a.1.2 a.2.1.length a.2.2) (fun a d => .int (freshM a.1.1 a.1.2 a.2.1 a.2.2) = d)
def sp__law_made (K : PySem.W.Frag) (G : Ads) : Sp := spP K (α := (Nat × Nat) × List (List Code)) (fun a => [grD G a.1.1 a.1.2, lnD a.2]) (fun a => Gd a.1.1 a.1.2 ∧ LnOk a.1.1 a.1.2 a.2) (fun a d => .lst (nsD G a.1.1 a.1.2 a.2) = d)
section
variable {P : Program} {w : World} {K : PySem.W.Frag} {mg : Str → Option Value} {base : Heap} {G : Ads} {f : Addr} {fd : FuncData}
variable {Z : Zn} {H0 : Hp} {L : Own} {Γ : Gam} {W : Hp → Addr → Prop} {E : XK} {t : TA} {te : TE} {p n m : Nat} {d : Dt} {one other : Code} {css : List (List Code)} {cs : List Code} {pl : List Nat}
theorem ev_dp [Wd K Z L W] (h : EV K Z H0 L Γ (wW Z) te (Eq (grD G p n))) : EV K Z H0 L Γ W (tDGet te (tC (.str "p"))) (Eq (.int p)) := ev_dget h ev_str rfl
theorem ev_dn [Wd K Z L W] (h : EV K Z H0 L Γ (wW Z) te (Eq (grD G p n))) : EV K Z H0 L Γ W (tDGet te (tC (.str "n"))) (Eq (.int n)) := ev_dget h ev_str rfl
theorem ev_dmade [Wd K Z L W] (h : EV K Z H0 L Γ (wW Z) te (Eq (grD G p n))) : EV K Z H0 L Γ W (tDGet te (tC (.str "made"))) (Eq (gr G p n)) := ev_dget h ev_str rfl
theorem ev_lcommon [Wd K Z L W] (h : EVA K Z H0 L Γ (wW Z) t (Eq [.int p, .int n, codeD one, codeD other])) (g : Gd p n) (h1 : Rows p n one) (h2 : Rows p n other) : EV K Z H0 L Γ W (tCall (sp__law_common K G) [] E t) (Eq (codeD (commonM p n one other))) := ev_call (x := ((p, n), one, other)) h ⟨g, h1, h2⟩
theorem ev_ljoined [Wd K Z L W] (h : EVA K Z H0 L Γ (wW Z) t (Eq [.int p, codeD one, codeD other])) (g : Gd p n) (h1 : Rows p n one) (h2 : Rows p n other) : EV K Z H0 L Γ W (tCall (sp__law_joined K G) [] E t) (Eq (codeD (joinedM p one other))) := ev_call (x := ((p, n), one, other)) h ⟨g, h1, h2⟩
theorem ev_lcodes [Wd K Z L W] (h : EVA K Z H0 L Γ (wW Z) t (Eq [.int p, .lst (one.map rowD)])) (g : Gd p n) (h1 : Rows p n one) : EV K Z H0 L Γ W (tCall (sp__law_codes K G) [] E t) (Eq (.lst ((codesM p one).map codeD))) := ev_call (x := ((p, n), one)) h ⟨g, h1⟩
theorem ev_lwhole [Wd K Z L W] (h : EVA K Z H0 L Γ (wW Z) t (Eq [d, .int n])) (hd : IsSq d (cs.map codeD)) (h1 : n ≤ 200) (h2 : cs.length ≤ 1000) : EV K Z H0 L Γ W (tCall (sp__law_whole K G) [] E t) (Eq (.lst ((wholeL n cs).map codeD))) := by
  obtain ⟨b, rfl⟩ := sq_cases hd
  exact ev_call (x := (n, b, cs)) h ⟨h1, h2⟩
theorem ev_ldigits [Wd K Z L W] (h : EVA K Z H0 L Γ (wW Z) t (Eq [.int n, .int m])) (h1 : DigOk n m) : EV K Z H0 L Γ W (tCall (sp__law_digits K G) [] E t) (Eq (.lst ((digM n m).map plD))) := ev_call (x := (n, m)) h h1
theorem ev_lplaces [Wd K Z L W] (h : EVA K Z H0 L Γ (wW Z) t (Eq [.int n, .int m])) (h1 : n ≤ 10) (h2 : m ≤ 4) : EV K Z H0 L Γ W (tCall (sp__law_all_places K G) [] E t) (Eq (.lst ((allPlM n m).map plD))) := ev_call (x := (n, m)) h ⟨h1, h2⟩
theorem ev_lmeet [Wd K Z L W] (h : EVA K Z H0 L Γ (wW Z) t (Eq [grD G p n, lnD css, plD pl])) (g : Gd p n) (o : LnOk p n css) (po : PlOk n css.length pl) : EV K Z H0 L Γ W (tCall (sp__law_meet K G) [] E t) (Eq (codeD (meetM p n css pl))) := ev_call (x := ((p, n), css, pl)) h ⟨g, o, po⟩
theorem ev_lbelow [Wd K Z L W] (h : EVA K Z H0 L Γ (wW Z) t (Eq [grD G p n, lnD css, plD pl])) (g : Gd p n) (o : LnOk p n css) (po : PlOk n css.length pl) : EV K Z H0 L Γ W (tCall (sp__law_below K G) [] E t) (Eq (codeD (belowM p n css pl))) := ev_call (x := ((p, n), css, pl)) h ⟨g, o, po⟩
theorem ev_lfresh [Wd K Z L W] (h : EVA K Z H0 L Γ (wW Z) t (Eq [grD G p n, lnD css, plD pl])) (g : Gd p n) (o : LnOk p n css) (po : PlOk n css.length pl) : EV K Z H0 L Γ W (tCall (sp__law_fresh K G) [] E t) (Eq (.int (freshM p n css pl))) := ev_call (x := ((p, n), css, pl)) h ⟨g, o, po⟩
theorem ev_lmade [Wd K Z L W] (h : EVA K Z H0 L Γ (wW Z) t (Eq [grD G p n, lnD css])) (g : Gd p n) (o : LnOk p n css) : EV K Z H0 L Γ W (tCall (sp__law_made K G) [] E t) (Eq (.lst (nsD G p n css))) := ev_call (x := ((p, n), css)) h ⟨g, o⟩
end
section
variable {P : Program} {w : World} {K : PySem.W.Frag} {mg : Str → Option Value} {base : Heap} {G : Ads} {f : Addr} {fd : FuncData}
theorem sc__law_joined : FnScope ["_law_p", "_law_one", "_law_other"] ["_law_p", "_law_one", "_law_other"] (defScope (top 66)) := ⟨rfl, rfl, rfl, by decide +kernel, rfl, by decide +kernel, by decide +kernel⟩
theorem ok__law_joined (F : Df K "_law_joined" "_law_joined" (top 66) f fd) (T : Txt K mg G) (c__law_reduced : Cl P w K mg base 2 "_law_reduced" (sp__law_reduced K G)) : FnOk P w K mg base CX0 3 f fd ["_law_p", "_law_one", "_law_other"] (sp__law_joined K G) := by
  have sc := sc__law_joined
  refine F.ok sc (fun vs H Q E h => spP_len h fun _ => rfl) (fun cdv A outer s H vs Q E hr h => ?_)
  refine ⟨_, PSs.nox (pss_cons (ps_ret (pe_cl c__law_reduced hr (by decide) (by rfl) (pa_cons (pv 0) (pa_cons (pe_op (x_add (K := K)) (pe_callTy (x_list (K := K)) (by rfl) T.f_list (by decide +kernel) (pa_cons (pv 1) pa_nil)) (pe_callTy (x_list (K := K)) (by rfl) T.f_list (by decide +kernel) (pa_cons (pv 2) pa_nil))) pa_nil)))) pss_nil), ?_⟩
  obtain ⟨⟨⟨p, n⟩, one, other⟩, ⟨g, h1, h2⟩, hargs, k⟩ := h
  have g : Gd p n := g
  have h1 : Rows p n one := h1
  have h2 : Rows p n other := h2
  have l1 := h1.1
  have l2 := h2.1
  have nle := g.nle
  have st : At K z0 H [] [some (.int p), some (codeD one), some (codeD other)] (L2.start ["_law_p", "_law_one", "_law_other"] vs) H := at_beg hargs rfl rfl
  exact q_ret1 st (ev_lreduced (c := one ++ other) (m := n) (ea_cons (ev_varW rfl) (ea_cons (EV.eq (ev_op (ev_cb (ea_cons (ev_varW rfl) ea_nil) (rc_list (.tup _))) (ev_cb (ea_cons (ev_varW rfl) ea_nil) (rc_list (.tup _))) (rr_addL (by rw [List.length_map, List.length_map]; omega))) (by rw [← List.map_append])) ea_nil)) (.lst _) g.lt g.pr (by omega) (by rw [List.length_append]; omega) fun r hr => (List.mem_append.mp hr).elim (h1.2 r) (h2.2 r)) k
theorem sc__law_codes : FnScope ["_law_p", "_law_base_here", "_law_k"] ["_law_p", "_law_base_here"] (defScope (top 60)) := ⟨rfl, rfl, rfl, by decide +kernel, rfl, by decide +kernel, by decide +kernel⟩
theorem ok__law_codes (F : Df K "_law_codes" "_law_codes" (top 60) f fd) (T : Txt K mg G) (c__law_reduced : Cl P w K mg base 2 "_law_reduced" (sp__law_reduced K G)) : FnOk P w K mg base CX0 3 f fd ["_law_p", "_law_base_here"] (sp__law_codes K G) := by
  have sc := sc__law_codes
  refine F.ok sc (fun vs H Q E h => spP_len h fun _ => rfl) (fun cdv A outer s H vs Q E hr h => ?_)
  refine ⟨_, PSs.nox (pss_cons (ps_ret (pe_lc (own := [("_law_k", 2)]) rfl sc.nd (pi_range2 (by rfl) T.f_range (pa_cons pe_int (pa_cons (pe_callB (x_len (K := K)) (by rfl) T.f_len PySem.boot_len (pa_cons (pv 1) pa_nil)) pa_nil))) (blkOk_by (by kernel_rfl)) (fun _ _ _ _ _ => (pg_name (i := 2) sc.nd rfl (by first | exact Or.inl rfl | exact Or.inr rfl))) (fun _ _ _ _ _ => pts_nil) (fun _ _ _ _ _ => (pe_cl c__law_reduced hr (by decide) (by rfl) (pa_cons (pv 0) (pa_cons (pe_slice (x_sl (K := K)) (pv 1) po_none (po_some (pv 2))) pa_nil)))))) pss_nil), ?_⟩
  obtain ⟨⟨⟨p, n⟩, base'⟩, ⟨g, h1⟩, hargs, k⟩ := h
  have g : Gd p n := g
  have h1 : Rows p n base' := h1
  have l1 := h1.1
  have nle := g.nle
  have st : At K z0 H [] [some (.int p), some (.lst (base'.map rowD)), none] (L2.start ["_law_p", "_law_base_here", "_law_k"] vs) H := at_beg hargs rfl rfl
  refine q_ret1 st (EV.eq (ev_lcM (xs := List.range (base'.length - 1)) (h := fun k : Nat => .int (1 + (k : Nat))) (is := [2]) (es := fun k => [.int (1 + (k : Nat))]) (fn := fun i => codeD (redM p (base'.take (1 + i)))) (fun σ H9 a R q => it_r2 (W := wW z0) (lo := 1) (hi := (base'.length : Int)) (N := Mt z0 []) (ea_cons ev_int (ea_cons (EV.eq (ev_cb (ea_cons (ev_varW rfl) ea_nil) (rc_len (.lst _))) (by rw [List.length_map])) ea_nil)) (by omega) σ H9 a R fun items J H1 G' Y pi => q items J H1 G' Y (by rw [← pi]; unfold rngD; rw [show ((base'.length : Int) - 1).toNat = base'.length - 1 by omega])) (.inl fun _ => Iff.rfl) (by rw [List.length_range]; omega) (fun _ _ => gt_name) (by decide) fun i hi => ?_) ?_) k
  · exact ev_lreduced (c := base'.take (1 + i)) (m := n) (ea_cons (ev_varW rfl) (ea_cons (EV.eq (ev_slL (ev_varW rfl) eo_none (eo_some (EV.eq (ev_varW rfl) (e := .int ((1 + i : Nat) : Int)) (by simp)))) (by rw [cut_to2 (n := 1 + i), ← List.map_take])) ea_nil)) (.lst _) g.lt g.pr (by omega) (by rw [List.length_take]; omega) fun r hr => h1.2 r (List.mem_of_mem_take hr)
  · unfold codesM
    rw [List.map_map]
    rfl
theorem sc__law_whole : FnScope ["_law_codes_here", "_law_n", "_law_found"] ["_law_codes_here", "_law_n"] (defScope (top 61)) := ⟨rfl, rfl, rfl, by decide +kernel, rfl, by decide +kernel, by decide +kernel⟩
theorem ok__law_whole (F : Df K "_law_whole" "_law_whole" (top 61) f fd) (T : Txt K mg G) (c__law_units : Cl P w K mg base 1 "_law_units" (sp__law_units K G)) : FnOk P w K mg base CX0 2 f fd ["_law_codes_here", "_law_n"] (sp__law_whole K G) := by
  have sc := sc__law_whole
  refine F.ok sc (fun vs H Q E h => spP_len h fun _ => rfl) (fun cdv A outer s H vs Q E hr h => ?_)
  refine ⟨_, PSs.nox (pss_cons (ps_set (i := 2) sc.nd rfl (Or.inl rfl) (pe_op (x_add (K := K)) (pe_lst (pa_cons (pe_tup pa_nil) pa_nil)) (pe_callTy (x_list (K := K)) (by rfl) T.f_list (by decide +kernel) (pa_cons (pv 0) pa_nil)))) (pss_cons (ps_ret (pe_ifExp (pt_cmpR op_gt (pv 1) pe_int (nomark _)) (pe_op (x_add (K := K)) (pv 2) (pe_lst (pa_cons (pe_callTy (x_tuple (K := K)) (by rfl) T.f_tuple (by decide +kernel) (pa_cons (pe_cl c__law_units hr (by decide) (by rfl) (pa_cons (pv 1) pa_nil)) pa_nil)) pa_nil))) (pv 2))) pss_nil)), ?_⟩
  obtain ⟨⟨n, b, cs⟩, ⟨hn, hc⟩, hargs, k⟩ := h
  have hn : n ≤ 200 := hn
  have hc : cs.length ≤ 1000 := hc
  generalize hR : sqD b (cs.map codeD) = R
  have hq : IsSq R (cs.map codeD) := hR ▸ sq_is b _
  have st : At K z0 H [] [some R, some (.int n), none] (L2.start ["_law_codes_here", "_law_n", "_law_found"] vs) H := at_beg hargs (by rw [← hR]; rfl) rfl
  refine q_own st (ds := ([] :: cs).map codeD) (EV.eq (ev_op (ev_lst (ea_cons (ev_tup ea_nil) ea_nil)) (ev_cb (ea_cons (ev_varW rfl) ea_nil) (rc_list hq)) (rr_addL (by rw [List.length_map]; simp; omega))) rfl) inferInstance fun l σ1 H1 nl s1 => ?_
  refine q_retIfOwn (b := decide (0 < n)) (P := Eq (.lst ((wholeL n cs).map codeD))) (i := 2) (l := l) (ds := ([] :: cs).map codeD) s1 (fun q hq => by rw [List.mem_singleton.mp hq]; exact nl) (EVT.eq (et_B (W := wF) (ev_op (ev_varW rfl) ev_int rr_gt)) (decide_eq_decide.mpr (by omega))) (fun h0 => ?_) rfl (List.mem_singleton.mpr rfl) (fun h0 => ?_) k
  · have h0 := of_decide_eq_true h0
    refine EV.eq (ev_op (ev_own rfl (List.mem_singleton.mpr rfl)) (ev_lst (ea_cons (ev_cb (ea_cons (ev_lunits (ea_cons (ev_varW rfl) ea_nil) (by omega)) ea_nil) (rc_tuple (.lst _))) ea_nil)) (rr_addL (by rw [List.length_map]; simp; omega))) ?_
    unfold wholeL
    rw [if_pos h0, List.map_append]
    rfl
  · have h0 := of_decide_eq_false h0
    unfold wholeL
    rw [if_neg h0, List.append_nil]
end
end Wk
end
section
set_option Elab.async false
set_option linter.all false
set_option maxRecDepth 100000
set_option maxHeartbeats 4000000
set_option autoImplicit false
namespace Wk
open PySem L2 Ly Mx
section
variable {P : Program} {w : World} {K : PySem.W.Frag} {mg : Str → Option Value} {base : Heap} {G : Ads} {f : Addr} {fd : FuncData}
theorem sc__law_second : FnScope ["_law_base_here", "_law_order", "_law_j"] ["_law_base_here", "_law_order"] (defScope (top 63)) := ⟨rfl, rfl, rfl, by decide +kernel, rfl, by decide +kernel, by decide +kernel⟩
theorem ok__law_second (F : Df K "_law_second" "_law_second" (top 63) f fd) (T : Txt K mg G)  : FnOk P w K mg base CX0 1 f fd ["_law_base_here", "_law_order"] (sp__law_second K G) := by
  have sc := sc__law_second
  refine F.ok sc (fun vs H Q E h => len_second h fun _ => rfl) (fun cdv A outer s H vs Q E hr h => ?_)
  refine ⟨_, PSs.nox (pss_cons (ps_ret (pe_lc (own := [("_law_j", 2)]) rfl sc.nd (pi_range1 (by rfl) T.f_range (pa_cons (pe_callB (x_len (K := K)) (by rfl) T.f_len PySem.boot_len (pa_cons (pv 1) pa_nil)) pa_nil)) (blkOk_by (by kernel_rfl)) (fun _ _ _ _ _ => (pg_name (i := 2) sc.nd rfl (by first | exact Or.inl rfl | exact Or.inr rfl))) (fun _ _ _ _ _ => pts_nil) (fun _ _ _ _ _ => (pe_ix (x_ix (K := K)) (pv 0) (pe_bmF PySem.F.slot_tuple_index PySem.F.type_tuple_index (x_idxT (K := K)) (pv 1) (pa_cons (pv 2) pa_nil)) (fun _ _ => rfl))))) pss_nil), ?_⟩
  obtain ⟨base', order, a, v0, rfl, ⟨hl, h2, h3⟩, i0, hF, k⟩ := h
  have st : At K z0 H [] [some (.lst (base'.map rowD)), some (.raw (.ref a)), none] (L2.start ["_law_base_here", "_law_order", "_law_j"] [v0, .ref a]) H := at_beg (.cons i0 (.cons (.raw _) .nil)) rfl rfl
  refine q_ret1 st (EV.eq (ev_lcM (xs := List.range order.length) (h := fun k : Nat => .int (0 + (k : Nat))) (is := [2]) (es := fun k => [.int (0 + (k : Nat))]) (fn := fun j => rowD (base'.getD (order.idxOf j) [])) (it_r1 (N := Mt z0 []) (n := order.length) (W := wW z0) (ea_cons (EV.eq (ev_lenF (Γ := [some (.lst (base'.map rowD)), some (.raw (.ref a)), none]) rfl hF) (by rw [List.length_map])) ea_nil) (by omega)) (.inl fun _ => Iff.rfl) (by rw [List.length_range]; omega) (fun _ _ => gt_name) (by decide) fun j hj => ?_) (by unfold secondM; rw [List.map_map]; rfl)) k
  have hj := List.mem_range.mp hj
  have mj := h3 j hj
  have lj := List.idxOf_lt_length_of_mem mj
  refine EV.eq (ev_op (ev_varW rfl) (ev_indexF (ns := order.map fun i : Nat => (i : Int)) (a := a) (j := order.idxOf j) rfl hF (ev_varW rfl) ?_ ?_) (rr_ixL (d := rowD (base'.getD (order.idxOf j) [])) (ix_nat (by omega) ?_))) rfl
  · rw [List.getElem?_map, List.getElem?_eq_getElem lj, List.getElem_idxOf lj]
    simp
  · intro m hm
    rw [List.getElem?_map]
    cases q : order[m]? with
    | none => exact fun z => nomatch z
    | some x =>
      obtain ⟨lm, e⟩ := List.getElem?_eq_some_iff.mp q
      have := List.not_of_lt_findIdx hm
      intro z
      have z : (x : Int) = 0 + (j : Int) := Option.some.inj z
      have : x = j := by omega
      subst this
      simp [e] at *
  · rw [Int.toNat_natCast, List.getElem?_map, List.getD_eq_getElem?_getD, List.getElem?_eq_getElem (by omega)]
    rfl
end
end Wk
end
section
set_option Elab.async false
set_option linter.all false
set_option maxRecDepth 100000
set_option maxHeartbeats 4000000
set_option autoImplicit false
namespace Wk
open PySem L2 Ly Mx
section
variable {P : Program} {w : World} {K : PySem.W.Frag} {mg : Str → Option Value} {base : Heap} {G : Ads} {f : Addr} {fd : FuncData}
end
end Wk
end
section
set_option Elab.async false
set_option linter.all false
set_option maxRecDepth 100000
set_option maxHeartbeats 4000000
set_option autoImplicit false
namespace Wk
open PySem L2 Ly Mx
/-! ### the source -/
def pickMax (m : Int) : Int := if m > 1 then m else 1
def sp__law_pick (K : PySem.W.Frag) (_ : Ads) : Sp := spS K (α := Int) (fun m => [.int m]) (fun m => m < 2 ^ 60) (fun m d => ∃ i : Nat, d = .int i ∧ (i : Int) < pickMax m)
def sp__law_source (K : PySem.W.Frag) (_ : Ads) : Sp := fun vs H Q _ => ∃ (a : Addr) (ns : List Int), vs = [.ref a] ∧ SqL K H a (ns.map V.int) ∧ ns.length ≤ 1000 ∧ ∀ A C H', H A = none → H C = none → Ex H H' → Src A C H' → Q (.ref A) H'
section
variable {P : Program} {w : World} {K : PySem.W.Frag} {mg : Str → Option Value} {base : Heap} {G : Ads} {f : Addr} {fd : FuncData}
theorem sc__law_pick : FnScope ["_law_source_here", "_law_many", "_law_left", "_law_mixed_here"] ["_law_source_here", "_law_many"] (defScope (top 50)) := ⟨rfl, rfl, rfl, by decide +kernel, rfl, by decide +kernel, by decide +kernel⟩
theorem ok__law_pick (F : Df K "_law_pick" "_law_pick" (top 50) f fd) (T : Txt K mg G)  : FnOk P w K mg base CX0 1 f fd ["_law_source_here", "_law_many"] (sp__law_pick K G) := by
  have sc := sc__law_pick
  refine F.ok sc (fun vs H Q E h => spS_len h fun _ => rfl) (fun cdv A outer s H vs Q E hr h => ?_)
  refine ⟨_, PSs.nox (pss_cons (ps_while PassesOwn.never (PW.pt (pw_and (pt_cmpR op_gt (pv 1) pe_int (nomark _)) (pw_and (pt_cmpR op_lt (pe_dget (hu_of hr) (pv 0) pe_str (fun _ _ => rfl)) pe_int (nomark _)) (pw_and1 (pt_cmpR op_gt (pe_callB (x_len (K := K)) (by rfl) T.f_len PySem.boot_len (pa_cons (pe_dget (hu_of hr) (pv 0) pe_str (fun _ _ => rfl)) pa_nil)) pe_int (nomark _)))))) (pss_cons (ps_dput (hu_of hr) (pv 0) pe_str (x_bm0 (K := K) PySem.F.plainAttrs_list PySem.F.slot_list_pop PySem.F.type_list_pop mt_pop (pe_dget (hu_of hr) (pv 0) pe_str (fun _ _ => rfl))) rfl) pss_nil)) (pss_cons (ps_set (i := 2) sc.nd rfl (Or.inl rfl) (pe_dget (hu_of hr) (pv 0) pe_str (fun _ _ => rfl))) (pss_cons (ps_if (PW.pt (pw_or (pt_cmpR op_lt (pv 1) pe_int (nomark _)) (pw_or1 (pt_cmpR op_gt (pv 2) pe_int (nomark _))))) (pss_cons (ps_dput (hu_of hr) (pv 0) pe_str (pe_op op_fdivW (pv 2) (pe_callB x_max (by rfl) T.f_max (by decide +kernel) (pa_cons pe_int (pa_cons (pv 1) pa_nil)))) rfl) (pss_cons (ps_ret (pe_op op_mod (pe_callTy x_int (by rfl) T.f_int (by decide +kernel) (pa_cons (pv 2) pa_nil)) (pe_callB x_max (by rfl) T.f_max (by decide +kernel) (pa_cons pe_int (pa_cons (pv 1) pa_nil))))) pss_nil)) pss_nil) (pss_cons (ps_dput (hu_of hr) (pv 0) pe_str (pe_op (x_add (K := K)) (pe_dget (hu_of hr) (pv 0) pe_str (fun _ _ => rfl)) pe_int) rfl) (pss_cons (ps_set (i := 3) sc.nd rfl (Or.inl rfl) (pe_op op_mod (pe_callTy x_int (by rfl) T.f_int (by decide +kernel) (pa_cons (pe_op (x_add (K := K)) (pe_dget (hu_of hr) (pv 0) pe_str (fun _ _ => rfl)) (pe_op (x_mulV (K := K)) (pe_dget (hu_of hr) (pv 0) pe_str (fun _ _ => rfl)) pe_int)) pa_nil)) pe_int)) (pss_cons (ps_set (i := 3) sc.nd rfl (Or.inl rfl) (pe_op op_mod (pe_callTy x_int (by rfl) T.f_int (by decide +kernel) (pa_cons (pe_op (x_add (K := K)) (pe_op (x_mulV (K := K)) (pv 3) (pv 3)) (pe_op (x_mulV (K := K)) (pe_dget (hu_of hr) (pv 0) pe_str (fun _ _ => rfl)) pe_int)) pa_nil)) pe_int)) (pss_cons (ps_ret (pe_op op_mod (pe_callTy x_int (by rfl) T.f_int (by decide +kernel) (pa_cons (pe_op op_fdivW (pv 3) pe_int) pa_nil)) (pv 1))) pss_nil))))))), ?_⟩
  obtain ⟨m, A', C, ws, rfl, hm, hS, i0, k⟩ := h
  have hm : m < 2 ^ 60 := hm
  have sb := at_begS (K := K) (N := ["_law_source_here", "_law_many", "_law_left", "_law_mixed_here"]) (Γ := [some (.raw (.ref A')), some (.int m), none, none]) hS (.cons (.raw (.ref A')) i0) rfl rfl
  obtain ⟨hAC, cells, l, mx, t, hA, hC⟩ := id hS
  have s0 : At K (Zq A' C ⟨cells, l, mx, t⟩) H [] [some (.raw (.ref A')), some (.int m), none, none] (L2.start ["_law_source_here", "_law_many", "_law_left", "_law_mixed_here"] (V.ref A' :: ws)) H := ⟨sb.go, ⟨hAC, hA, hC⟩, sb.own, sb.nd, sb.len, sb.env⟩
  refine ⟨fun n σ' H' => ∃ c : SC, c.cells.length = n ∧ At K (Zq A' C c) H [] [some (.raw (.ref A')), some (.int m), none, none] σ' H', ⟨_, _, rfl, s0⟩, fun n σ1 H1 ⟨c, hn, s1⟩ => ?_⟩
  refine et_and (et_B (W := wF) (ev_op (ev_varW rfl) ev_int rr_gt)) (fun _ => et_and (et_B (W := wF) (ev_op (ev_sleft rfl) ev_int rr_lt)) fun _ => et_B (W := wF) (ev_op (ev_scells rfl) ev_int rr_gt)) σ1 H1 s1 _ fun b H2 pb g j => ?_
  have s2 := s1.step g j
  cases b with
  | true =>
    rw [if_pos rfl]
    have hne : c.cells ≠ [] := fun z => by
      rw [z] at pb
      simp at pb
    refine ⟨fun σ' H' => ∃ c' : SC, c'.cells.length < n ∧ At K (Zq A' C c') H [] [some (.raw (.ref A')), some (.int m), none, none] σ' H', fun σ' H' ⟨c', h1, h2⟩ => ⟨_, h1, c', rfl, h2⟩, ?_⟩
    refine q_spop s2 rfl hne fun x H3 s3 => q_next ⟨_, ?_, s3⟩
    show c.cells.dropLast.length < n
    have := List.length_pos_iff.mpr hne
    rw [List.length_dropLast]
    omega
  | false =>
    rw [if_neg Bool.false_ne_true]
    refine q_asg s2 (EV.imm (ev_sleft (W := wF) rfl)) fun d pd σ3 H3 s3 => ?_
    subst pd
    have mxv : ∀ {Z : Zn} {Γ : Gam} {H4 : Hp}, Γ[1]? = some (some (.int m)) → EV K Z H4 [] Γ (wW Z) (tCB rMax2 (tCons (tC (.int 1)) (tCons (tVar 1) tNil))) (Eq (.int (pickMax m))) := fun hi => ev_cb (ea_cons ev_int (ea_cons (ev_varW hi) ea_nil)) rc_max
    have pm1 : 0 < pickMax m := by unfold pickMax; split <;> omega
    have pm2 : pickMax m < 2 ^ 60 := by unfold pickMax; split <;> omega
    have pick_ok : ∀ x : Int, ∃ i : Nat, Dt.int (x % pickMax m) = .int i ∧ (i : Int) < pickMax m := fun x => by
      have h1 := Int.emod_nonneg x (by omega : pickMax m ≠ 0)
      have h2 := Int.emod_lt_of_pos x pm1
      exact ⟨(x % pickMax m).toNat, by rw [Int.toNat_of_nonneg h1], by omega⟩
    refine q_if s3 (et_or (et_B (W := wF) (ev_op (ev_varW rfl) ev_int rr_lt)) fun _ => et_B (W := wF) (ev_op (ev_varW rfl) ev_int rr_gt)) (fun _ H4 s4 => ?_) fun hb H4 s4 => ?_
    · refine q_sleft s4 rfl (ev_op (ev_varW rfl) (mxv rfl) (rr_fdiv (wide_div pm1 (b := 64) (by omega) (by decide) (by decide)))) fun H5 s5 => ?_
      refine qs_ret1 (P := fun d => ∃ i : Nat, d = .int i ∧ (i : Int) < pickMax m) s5.zqs (EV.to (ev_op (d := .int c.l) (e := .int (pickMax m)) (ev_cb (ea_cons (ev_varW rfl) ea_nil) rc_intI) (mxv rfl) (rr_mod pm1)) fun d q => q ▸ pick_ok _) k
    · have hm1 : ¬ m < 1 + 1 := by
        intro z
        have : decide (m < 2) = true := decide_eq_true (by omega)
        rw [this] at hb
        cases hb
      refine q_next (q_sturn s4 rfl (ev_op (ev_sturn rfl) ev_int rr_addI) fun H5 s5 => ?_)
      refine q_asg s5 (EV.imm (W' := wF) (ev_op (ev_cb (ea_cons (ev_op (ev_smixed rfl) (ev_op (ev_sturn rfl) ev_int (rr_mulS (j := 104729) (by decide))) rr_addI) ea_nil) rc_intI) ev_int (rr_mod (j := 998244353) (by decide)))) fun d pd σ6 H6 s6 => ?_
      subst pd
      generalize hx : (c.m + (c.t + 1) * 104729) % 998244353 = x at *
      have x0 : 0 ≤ x := by rw [← hx]; exact Int.emod_nonneg _ (by decide)
      have x1 : x < 998244353 := by rw [← hx]; exact Int.emod_lt_of_pos _ (by decide)
      refine q_asg s6 (EV.imm (W' := wF) (ev_op (ev_cb (ea_cons (ev_op (ev_op (ev_varW rfl) (ev_varW rfl) (rr_mulV (small_mul (by omega) (by omega)))) (ev_op (ev_sturn rfl) ev_int (rr_mulS (j := 17) (by decide))) rr_addI) ea_nil) rc_intI) ev_int (rr_mod (j := 2147483647) (by decide)))) fun d pd σ7 H7 s7 => ?_
      subst pd
      have pm3 : pickMax m = m := by unfold pickMax; rw [if_pos (by omega)]
      rw [pm3] at pick_ok pm1
      refine qs_ret1 (P := fun d => ∃ i : Nat, d = .int i ∧ (i : Int) < pickMax m) s7.zqs (EV.to (ev_op (ev_cb (ea_cons (ev_op (ev_varW rfl) ev_int (rr_fdiv (wide_div (by decide) (b := 64) (by decide) (by decide) (by decide)))) ea_nil) rc_intI) (ev_varW rfl) (rr_mod pm1)) fun d q => q ▸ (by rw [pm3]; exact pick_ok _)) k
end
end Wk
end
section
set_option Elab.async false
set_option linter.all false
set_option maxRecDepth 100000
set_option maxHeartbeats 4000000
set_option autoImplicit false
namespace Wk
open PySem L2 Ly Mx
/-! ### draws -/
theorem len_source {K : PySem.W.Frag} {G : Ads} {vs : List V} {H : Hp} {Q : VK} {E : XK} (h : sp__law_source K G vs H Q E) (_ : ∀ _ : Unit, () = ()) : vs.length = 1 := by
  obtain ⟨_, _, rfl, _⟩ := h
  rfl
def sp__law_of (K : PySem.W.Frag) (_ : Ads) : Sp := spS K (α := List Dt) (fun ds => [.lst ds]) (fun ds => ImmL ds ∧ ds ≠ [] ∧ ds.length ≤ 1000) (fun ds d => d ∈ ds)
def sp__law_mixed (K : PySem.W.Frag) (_ : Ads) : Sp := spS K (α := List Dt) (fun ds => [.lst ds]) (fun ds => ImmL ds ∧ ds.length ≤ 1000) (fun ds d => ∃ es, d = .lst es ∧ es.Perm ds)
theorem src_of {K : PySem.W.Frag} {H H' : Hp} {v : V} {cells : List Int} {l m t : Int} (i : Is K (fun b => H b ≠ none) H' (.dct [(ks "cells", .lst (cells.map .int)), (ks "left", .int l), (ks "mixed", .int m), (ks "turn", .int t)]) v) :
    ∃ A C, v = .ref A ∧ H A = none ∧ H C = none ∧ Src A C H' := by
  cases i with
  | dct e n l0 =>
    rename_i A vs
    cases l0 with
    | cons x1 l0 =>
    cases l0 with
    | cons x2 l0 =>
    cases l0 with
    | cons x3 l0 =>
    cases l0 with
    | cons x4 l0 =>
    cases l0
    cases x1 with
    | lst e1 n1 l1 =>
    rename_i C xs
    cases x2
    cases x3
    cases x4
    have := l1.ints
    subst this
    refine ⟨A, C, rfl, Classical.byContradiction n, Classical.byContradiction n1, fun z => ?_, cells, l, m, t, e, e1⟩
    rw [z, e1] at e
    cases e
section
variable {P : Program} {w : World} {K : PySem.W.Frag} {mg : Str → Option Value} {base : Heap} {G : Ads} {f : Addr} {fd : FuncData}
theorem sc__law_source : FnScope ["_law_script", "_law_mixed_here", "_law_cell"] ["_law_script"] (defScope (top 49)) := ⟨rfl, rfl, rfl, by decide +kernel, rfl, by decide +kernel, by decide +kernel⟩
theorem ok__law_source (F : Df K "_law_source" "_law_source" (top 49) f fd) (T : Txt K mg G)  : FnOk P w K mg base CX0 1 f fd ["_law_script"] (sp__law_source K G) := by
  have sc := sc__law_source
  refine F.ok sc (fun vs H Q E h => len_source h fun _ => rfl) (fun cdv A outer s H vs Q E hr h => ?_)
  refine ⟨_, PSs.nox (pss_cons (ps_set (i := 1) sc.nd rfl (Or.inl rfl) pe_int) (pss_cons (ps_for PassesOwn.never rfl (x_sq (K := K) (pv 0)) (pg_name (i := 2) sc.nd rfl (Or.inl rfl)) (pss_cons (ps_set (i := 1) sc.nd rfl (Or.inl rfl) (pe_op op_mod (pe_callTy x_int (by rfl) T.f_int (by decide +kernel) (pa_cons (pe_op (x_add (K := K)) (pe_op (x_add (K := K)) (pe_op (x_mulV (K := K)) (pv 1) pe_int) (pe_op (x_mulV (K := K)) (pv 2) pe_int)) pe_int) pa_nil)) pe_int)) pss_nil)) (pss_cons (ps_ret (pe_disp (pps_cons pe_str (x_rev (K := K) (pe_lc (own := [("_law_cell", 2)]) rfl sc.nd (x_sq (K := K) (pv 0)) (blkOk_by (by kernel_rfl)) (fun _ _ _ _ _ => (pg_name (i := 2) sc.nd rfl (by first | exact Or.inl rfl | exact Or.inr rfl))) (fun _ _ _ _ _ => pts_nil) (fun _ _ _ _ _ => (pe_callB x_abs (by rfl) T.f_abs (by decide +kernel) (pa_cons (pv 2) pa_nil))))) (pps_cons pe_str pe_int (pps_cons pe_str (pv 1) (pps_cons pe_str pe_int pps_nil)))) (by rfl) (by rfl) (fun z => by cases z) (by decide))) pss_nil))), ?_⟩
  obtain ⟨a, ns, rfl, hs, hl, k⟩ := h
  have st : At K z0 H [] [some (.raw (.ref a)), none, none] (L2.start ["_law_script", "_law_mixed_here", "_law_cell"] [V.ref a]) H := at_beg (.cons (.raw (.ref a)) .nil) rfl rfl
  refine q_asg st ev_int fun d pd σ1 H1 s1 => ?_
  subst pd
  refine q_for (β := Int) (I := fun _ _ _ => True) (Lf := fun _ _ _ => []) (Γf := fun _ _ x => [some (.raw (.ref a)), some (.int x), none]) (is := [2]) (es := fun d => [d]) s1 (it_raw rfl hs) (fun _ _ _ _ => gt_name) (fun _ _ _ => rfl) (fun _ _ => ⟨_, trivial, rfl, .keep (.keep (.keep .nil))⟩) ?_ ?_
  · intro items pi i d x hd _ H2 g2 σ2 H3 s2 N kN
    subst pi
    rw [List.getElem?_map] at hd
    cases q : ns[i]? with
    | none => rw [q] at hd; cases hd
    | some c =>
      rw [q] at hd
      cases hd
      refine q_asg s2 (EV.imm (W' := wF) (ev_op (ev_cb (ea_cons (ev_op (ev_op (ev_op (ev_varW rfl) ev_int (rr_mulS (j := 69069) (by decide))) (ev_op (ev_varW rfl) ev_int (rr_mulS (j := 31) (by decide))) rr_addI) ev_int rr_addI) ea_nil) rc_intI) ev_int (rr_mod (j := 2147483629) (by decide)))) fun d pd σ3 H4 s3 => ?_
      subst pd
      exact q_next (kN _ σ3 H4 trivial (s3.less (.keep (.keep (.drop .nil)))))
  · intro items pi x _ σ2 H2 s2
    subst pi
    refine q_ret1 (P := Eq (.dct [(ks "cells", .lst ((ns.map fun c => if c < 0 then -c else c).reverse.map .int)), (ks "left", .int 1), (ks "mixed", .int x), (ks "turn", .int 0)])) s2 (ev_disp (ep_cons ev_str (EV.eq (ev_rev (ds := ns.map fun c => Dt.int (if c < 0 then -c else c)) (ev_lcM (xs := ns) (h := Dt.int) (is := [2]) (es := fun c => [.int c]) (it_raw rfl hs) (.inl fun _ => Iff.rfl) (by omega) (fun _ _ => gt_name) (by decide) fun c _ => ev_cb (ea_cons (ev_varW rfl) ea_nil) rc_abs)) (by rw [← List.map_reverse]; simp [List.map_map])) (ep_cons ev_str ev_int (ep_cons ev_str (ev_varI rfl) (ep_cons ev_str ev_int ep_nil)))) (show ([ks "cells", ks "left", ks "mixed", ks "turn"] : List Key).Nodup by decide) (show 4 ≤ 15 by decide)) fun d v H' pd ex ix => ?_
    subst pd
    obtain ⟨A', C', rfl, nA, nC, sr⟩ := src_of ix
    exact k A' C' H' nA nC ex sr
theorem ev_pick {A C : Addr} {H0 : Hp} {L : Own} {Γ : Gam} {W : Hp → Addr → Prop} {te : TE} {E : XK} {i : Nat} {m : Nat} [Wd K (Zs A C) L W] (hi : Γ[i]? = some (some (.raw (.ref A)))) (h : EV K (Zs A C) H0 L Γ (wW (Zs A C)) te (Eq (.int m))) (h1 : 0 < m) (h2 : m < 2 ^ 60) :
    EV K (Zs A C) H0 L Γ W (tCall (sp__law_pick K G) [] E (tCons (tVar i) (tCons te tNil))) (fun d => ∃ j : Nat, d = .int j ∧ j < m) :=
  ev_callS hi (ea_cons h ea_nil) fun ds p => ⟨(m : Int), p.symm, by omega, fun d q => by
    obtain ⟨j, rfl, hj⟩ := q
    refine ⟨j, rfl, ?_⟩
    unfold pickMax at hj
    split at hj <;> omega⟩
theorem sc__law_of : FnScope ["_law_source_here", "_law_some"] ["_law_source_here", "_law_some"] (defScope (top 51)) := ⟨rfl, rfl, rfl, by decide +kernel, rfl, by decide +kernel, by decide +kernel⟩
theorem ok__law_of (F : Df K "_law_of" "_law_of" (top 51) f fd) (T : Txt K mg G) (c__law_pick : Cl P w K mg base 1 "_law_pick" (sp__law_pick K G)) : FnOk P w K mg base CX0 2 f fd ["_law_source_here", "_law_some"] (sp__law_of K G) := by
  have sc := sc__law_of
  refine F.ok sc (fun vs H Q E h => spS_len h fun _ => rfl) (fun cdv A outer s H vs Q E hr h => ?_)
  refine ⟨_, PSs.nox (pss_cons (ps_ret (pe_ix (x_ix (K := K)) (pv 1) (pe_cl c__law_pick hr (by decide) (by rfl) (pa_cons (pv 0) (pa_cons (pe_callB (x_len (K := K)) (by rfl) T.f_len PySem.boot_len (pa_cons (pv 1) pa_nil)) pa_nil))) (fun _ _ => rfl))) pss_nil), ?_⟩
  obtain ⟨ds, A', C, ws, rfl, ⟨hI, hne, hl⟩, hS, i0, k⟩ := h
  have sb : At K (Zs A' C) H [] [some (.raw (.ref A')), some (.lst ds)] (L2.start ["_law_source_here", "_law_some"] (V.ref A' :: ws)) H := at_begS (K := K) (N := ["_law_source_here", "_law_some"]) hS (.cons (.raw (.ref A')) i0) rfl rfl
  refine qs_ret1 sb (ev_opP (ev_varW rfl) (fun _ _ => ev_pick (m := ds.length) rfl (EV.eq (ev_cb (ea_cons (ev_varW rfl) ea_nil) (rc_len (.lst _))) rfl) (List.length_pos_iff.mpr hne) (by omega)) fun d e p1 p2 => ?_) k
  subst p1
  obtain ⟨j, rfl, hj⟩ := p2
  have hr : ds[j]? = some ds[j] := List.getElem?_eq_getElem hj
  have := hI.all _ (List.getElem_mem hj)
  exact fun M H x y hx hy Q k => rr_ixL (d := ds[j]) (atI_nat hr) M H x y hx hy Q fun d v H' q => k d v H' (q ▸ List.getElem_mem hj)
theorem sc__law_mixed : FnScope ["_law_source_here", "_law_things", "_law_rest", "_law_lap"] ["_law_source_here", "_law_things"] (defScope (top 52)) := ⟨rfl, rfl, rfl, by decide +kernel, rfl, by decide +kernel, by decide +kernel⟩
theorem ok__law_mixed (F : Df K "_law_mixed" "_law_mixed" (top 52) f fd) (T : Txt K mg G) (c__law_pick : Cl P w K mg base 1 "_law_pick" (sp__law_pick K G)) : FnOk P w K mg base CX0 2 f fd ["_law_source_here", "_law_things"] (sp__law_mixed K G) := by
  have sc := sc__law_mixed
  refine F.ok sc (fun vs H Q E h => spS_len h fun _ => rfl) (fun cdv A outer s H vs Q E hr h => ?_)
  refine ⟨_, PSs.nox (pss_cons (ps_set (i := 2) sc.nd rfl (Or.inr rfl) (pe_callTy (x_list (K := K)) (by rfl) T.f_list (by decide +kernel) (pa_cons (pv 1) pa_nil))) (pss_cons (ps_ret (pe_lc (own := [("_law_lap", 3)]) rfl sc.nd (pi_range1 (by rfl) T.f_range (pa_cons (pe_callB (x_len (K := K)) (by rfl) T.f_len PySem.boot_len (pa_cons (pv 2) pa_nil)) pa_nil)) (blkOk_by (by kernel_rfl)) (fun _ _ _ _ _ => (pg_name (i := 3) sc.nd rfl (by first | exact Or.inl rfl | exact Or.inr rfl))) (fun _ _ _ _ _ => pts_nil) (fun _ _ _ _ _ => (x_bm (K := K) PySem.F.plainAttrs_list PySem.F.slot_list_pop PySem.F.type_list_pop mt_popAt (pv 2) (pa_cons (pe_cl c__law_pick hr (by decide) (by rfl) (pa_cons (pv 0) (pa_cons (pe_callB (x_len (K := K)) (by rfl) T.f_len PySem.boot_len (pa_cons (pv 2) pa_nil)) pa_nil))) pa_nil))))) pss_nil)), ?_⟩
  obtain ⟨ds, A', C, ws, rfl, ⟨hI, hl⟩, hS, i0, k⟩ := h
  have sb : At K (Zs A' C) H [] [some (.raw (.ref A')), some (.lst ds), none, none] (L2.start ["_law_source_here", "_law_things", "_law_rest", "_law_lap"] (V.ref A' :: ws)) H := at_begS (K := K) (N := ["_law_source_here", "_law_things", "_law_rest", "_law_lap"]) hS (.cons (.raw (.ref A')) i0) rfl rfl
  refine q_own sb (ds := ds) (ev_cb (ea_cons (ev_varW rfl) ea_nil) (rc_list (.lst _))) hI fun l σ1 H1 nl s1 => ?_
  refine q_retPops s1 nl rfl (fun x => rfl) hI hl (ea_cons (ev_cb (ea_cons (ev_own (ds := ds) rfl (by simp)) ea_nil) (rc_len (.lst _))) ea_nil) (fun L2 rest x hne hl2 hm => ?_) k
  exact ev_pick (m := rest.length) rfl (ev_cb (ea_cons (ev_own (ds := rest) rfl hm) ea_nil) (rc_len (.lst _))) (List.length_pos_iff.mpr hne) (by omega)
end
end Wk
end
section
set_option Elab.async false
set_option linter.all false
set_option maxRecDepth 100000
set_option maxHeartbeats 4000000
set_option autoImplicit false
namespace Wk
open PySem L2 Ly Mx
/-! ### grounds drawn -/
def SmP (p : Nat) : Prop := p = 2 ∨ p = 3 ∨ p = 5 ∨ p = 7 ∨ p = 13
theorem SmP.pr {p : Nat} (h : SmP p) : Pr p := by
  have h2 : 2 ≤ p := by unfold SmP at h; omega
  refine ⟨h2, fun g g2 gg => ?_⟩
  have h13 : p ≤ 13 := by unfold SmP at h; omega
  have g3 : g ≤ 3 := by
    refine Nat.le_of_not_lt fun q => ?_
    have : 4 * 4 ≤ g * g := Nat.mul_le_mul q q
    omega
  have : g = 2 ∨ g = 3 := by omega
  rcases h with rfl | rfl | rfl | rfl | rfl <;> rcases this with rfl | rfl <;> first | decide | omega
theorem SmP.lt {p : Nat} (h : SmP p) : p < 1000 := by unfold SmP at h; omega
theorem SmP.gd {p n : Nat} (h : SmP p) (hn : n ≤ 200) : Gd p n := ⟨h.lt, h.pr, hn⟩
theorem SmP.gr {p n : Nat} (h : SmP p) (hn : n ≤ 200) : GrOk p n := ⟨h.pr.two, h.lt, h.pr.no, by omega⟩
def sp__law_ground (K : PySem.W.Frag) (G : Ads) : Sp := spS K (α := Nat × Nat) (fun a => [.int a.1, .int a.2]) (fun a => a.1 ≤ a.2 ∧ a.2 ≤ 100) (fun a d => ∃ p n : Nat, d = grD G p n ∧ SmP p ∧ a.1 ≤ n ∧ n ≤ a.2)
def sp__law_any_ground (K : PySem.W.Frag) (G : Ads) : Sp := spS K (α := Nat) (fun a => [.int a]) (fun a => 2 ≤ a ∧ a ≤ 100) (fun a d => ∃ p n : Nat, d = grD G p n ∧ SmP p ∧ n ≤ a)
def sp__law_share_ground (K : PySem.W.Frag) (G : Ads) : Sp := spS K (α := Nat) (fun a => [.int a]) (fun a => a ≤ 4) (fun a d => ∃ p n : Nat, d = grD G p n ∧ SmP p ∧ n ≤ 4)
section
variable {P : Program} {w : World} {K : PySem.W.Frag} {mg : Str → Option Value} {base : Heap} {G : Ads} {f : Addr} {fd : FuncData}
theorem ev_grD {Z : Zn} {H0 : Hp} {L : Own} {Γ : Gam} {W : Hp → Addr → Prop} [Wd K Z L W] {E : XK} {tp tn tp2 tn2 : TE} {p n : Nat} (h : SmP p) (hn : n ≤ 200) (h1 : EV K Z H0 L Γ wF tp (Eq (.int p))) (h2 : EV K Z H0 L Γ wF tn (Eq (.int n))) (h3 : EV K Z H0 L Γ (wW Z) tp2 (Eq (.int p))) (h4 : EV K Z H0 L Γ (wW Z) tn2 (Eq (.int n))) :
    EV K Z H0 L Γ W (tDisp [(tC (.str "p"), tp), (tC (.str "n"), tn), (tC (.str "made"), tMake G.Ground (sp_Ground__init_ K G) [] E (tCons tp2 (tCons tn2 tNil)))]) (Eq (grD G p n)) :=
  ev_disp (ep_cons ev_str h1 (ep_cons ev_str h2 (ep_cons ev_str (ev_make (x := ((p, n) : Nat × Nat)) (ea_cons h3 (ea_cons h4 ea_nil)) (h.gr hn)) ep_nil))) (show ([ks "p", ks "n", ks "made"] : List Key).Nodup by decide) (show 3 ≤ 15 by decide)
theorem sc__law_ground : FnScope ["_law_source_here", "_law_least", "_law_most", "_law_p", "_law_n"] ["_law_source_here", "_law_least", "_law_most"] (defScope (top 53)) := ⟨rfl, rfl, rfl, by decide +kernel, rfl, by decide +kernel, by decide +kernel⟩
theorem ok__law_ground (F : Df K "_law_ground" "_law_ground" (top 53) f fd) (T : Txt K mg G) (c__law_pick : Cl P w K mg base 1 "_law_pick" (sp__law_pick K G)) (c__law_of : Cl P w K mg base 2 "_law_of" (sp__law_of K G)) (c_Ground__init_ : Ma P w K mg base 3 "Ground" G.Ground (sp_Ground__init_ K G)) : FnOk P w K mg base CX0 5 f fd ["_law_source_here", "_law_least", "_law_most"] (sp__law_ground K G) := by
  have sc := sc__law_ground
  refine F.ok sc (fun vs H Q E h => spS_len h fun _ => rfl) (fun cdv A outer s H vs Q E hr h => ?_)
  refine ⟨_, PSs.nox (pss_cons (ps_par (i := 3) (j := 4) (by rfl) sc.nd rfl rfl (by decide) rfl rfl (pa_cons (pe_cl c__law_of hr (by decide) (by rfl) (pa_cons (pv 0) (pa_cons (pe_lst (pa_cons pe_int (pa_cons pe_int (pa_cons pe_int (pa_cons pe_int (pa_cons pe_int (pa_cons pe_int (pa_cons pe_int pa_nil)))))))) pa_nil))) (pa_cons (pe_op (x_add (K := K)) (pv 1) (pe_cl c__law_pick hr (by decide) (by rfl) (pa_cons (pv 0) (pa_cons (pe_op op_sub (pe_op (x_add (K := K)) (pv 2) pe_int) (pv 1)) pa_nil)))) pa_nil)) (by rfl)) (pss_cons (ps_ret (pe_disp (pps_cons pe_str (pv 3) (pps_cons pe_str (pv 4) (pps_cons pe_str (pe_ma c_Ground__init_ hr (by decide) (by rfl) (pa_cons (pv 3) (pa_cons (pv 4) pa_nil))) pps_nil))) (by rfl) (by rfl) (fun z => by cases z) (by decide))) pss_nil)), ?_⟩
  obtain ⟨⟨a, b⟩, A', C, ws, rfl, ⟨h1, h2⟩, hS, i0, k⟩ := h
  have h1 : a ≤ b := h1
  have h2 : b ≤ 100 := h2
  have sb : At K (Zs A' C) H [] [some (.raw (.ref A')), some (.int a), some (.int b), none, none] (L2.start ["_law_source_here", "_law_least", "_law_most", "_law_p", "_law_n"] (V.ref A' :: ws)) H := at_begS (K := K) (N := ["_law_source_here", "_law_least", "_law_most", "_law_p", "_law_n"]) hS (.cons (.raw (.ref A')) i0) rfl rfl
  refine q_par sb (PL := fun l => ∃ p n : Nat, l = [.int p, .int n] ∧ SmP p ∧ a ≤ n ∧ n ≤ b) (Ly.EVA.to (ea_consP (P := fun d => ∃ p : Nat, d = .int p ∧ SmP p) (ev_callS (P := fun d => ∃ p : Nat, d = .int p ∧ SmP p) rfl (ea_cons (ev_lst (ea_cons ev_int (ea_cons ev_int (ea_cons ev_int (ea_cons ev_int (ea_cons ev_int (ea_cons ev_int (ea_cons ev_int ea_nil)))))))) ea_nil) fun ds pd => ⟨[.int 2, .int 2, .int 2, .int 3, .int 3, .int 5, .int 7], pd.symm, ⟨inferInstance, by simp, by simp⟩, fun d q => ?_⟩) fun d _ => ea_consP (P := fun d => ∃ n : Nat, d = .int n ∧ a ≤ n ∧ n ≤ b) (ev_opP (ev_varW rfl) (fun _ _ => ev_pick (m := b + 1 - a) rfl (EV.eq (ev_op (ev_op (ev_varW rfl) ev_int rr_addI) (ev_varW rfl) rr_sub) ?_) (by omega) (by omega)) fun d e p1 p2 => ?_) fun _ _ => ea_nil) fun l q => ?_) fun l q => ?_
  · simp at q
    rcases q with rfl | rfl | rfl | rfl
    · exact ⟨2, rfl, .inl rfl⟩
    · exact ⟨3, rfl, .inr (.inl rfl)⟩
    · exact ⟨5, rfl, .inr (.inr (.inl rfl))⟩
    · exact ⟨7, rfl, .inr (.inr (.inr (.inl rfl)))⟩
  · congr 1
    omega
  · subst p1
    obtain ⟨j, rfl, hj⟩ := p2
    exact (rr_addI (K := K) (i := (a : Int)) (j := (j : Int))).to fun d q => ⟨a + j, by rw [← q]; rfl, by omega, by omega⟩
  · obtain ⟨d, ds, rfl, ⟨p, rfl, hp⟩, d2, ds2, rfl, ⟨n, rfl, h3, h4⟩, rfl⟩ := q
    exact ⟨p, n, rfl, hp, h3, h4⟩
  · obtain ⟨p, n, rfl, hp, h3, h4⟩ := q
    refine ⟨_, _, rfl, fun σ1 H1 s1 => ?_⟩
    exact qs_ret1 s1 ((ev_grD hp (by omega) (ev_varI rfl) (ev_varI rfl) (ev_varW rfl) (ev_varW rfl)).to fun d q => ⟨p, n, q.symm, hp, h3, h4⟩) k
theorem sc__law_any_ground : FnScope ["_law_source_here", "_law_most", "_law_n"] ["_law_source_here", "_law_most"] (defScope (top 65)) := ⟨rfl, rfl, rfl, by decide +kernel, rfl, by decide +kernel, by decide +kernel⟩
theorem ok__law_any_ground (F : Df K "_law_any_ground" "_law_any_ground" (top 65) f fd) (T : Txt K mg G) (c__law_pick : Cl P w K mg base 1 "_law_pick" (sp__law_pick K G)) (c__law_ground : Cl P w K mg base 5 "_law_ground" (sp__law_ground K G)) (c_Ground__init_ : Ma P w K mg base 3 "Ground" G.Ground (sp_Ground__init_ K G)) : FnOk P w K mg base CX0 6 f fd ["_law_source_here", "_law_most"] (sp__law_any_ground K G) := by
  have sc := sc__law_any_ground
  refine F.ok sc (fun vs H Q E h => spS_len h fun _ => rfl) (fun cdv A outer s H vs Q E hr h => ?_)
  refine ⟨_, PSs.nox (pss_cons (ps_if (pt_cmpR op_gt (pe_cl c__law_pick hr (by decide) (by rfl) (pa_cons (pv 0) (pa_cons pe_int pa_nil))) pe_int (nomark _)) (pss_cons (ps_ret (pe_cl c__law_ground hr (by decide) (by rfl) (pa_cons (pv 0) (pa_cons pe_int (pa_cons (pv 1) pa_nil))))) pss_nil) pss_nil) (pss_cons (ps_set (i := 2) sc.nd rfl (Or.inl rfl) (pe_cl c__law_pick hr (by decide) (by rfl) (pa_cons (pv 0) (pa_cons pe_int pa_nil)))) (pss_cons (ps_ret (pe_disp (pps_cons pe_str pe_int (pps_cons pe_str (pv 2) (pps_cons pe_str (pe_ma c_Ground__init_ hr (by decide) (by rfl) (pa_cons pe_int (pa_cons (pv 2) pa_nil))) pps_nil))) (by rfl) (by rfl) (fun z => by cases z) (by decide))) pss_nil))), ?_⟩
  obtain ⟨a, A', C, ws, rfl, ⟨h1, h2⟩, hS, i0, k⟩ := h
  have sb : At K (Zs A' C) H [] [some (.raw (.ref A')), some (.int a), none] (L2.start ["_law_source_here", "_law_most", "_law_n"] (V.ref A' :: ws)) H := at_begS (K := K) (N := ["_law_source_here", "_law_most", "_law_n"]) hS (.cons (.raw (.ref A')) i0) rfl rfl
  refine q_if sb (et_testP (P := fun _ => True) (W := wF) (ev_opP (ev_pick (m := 6) rfl ev_int (by decide) (by decide)) (fun _ _ => ev_int) fun d e p1 p2 => ?_)) (fun _ H1 s1 => ?_) fun _ H1 s1 => ?_
  · obtain ⟨j, rfl, hj⟩ := p1
    subst p2
    exact rr_gt.to fun d q => ⟨_, q.symm, trivial⟩
  · exact qs_ret1 s1 (ev_callS rfl (ea_cons ev_int (ea_cons (ev_varW rfl) ea_nil)) fun ds p => ⟨(0, a), p.symm, ⟨Nat.zero_le _, h2⟩, fun d q => q.elim fun p q => q.elim fun n q => ⟨p, n, q.1, q.2.1, q.2.2.2⟩⟩) k
  · refine q_next (q_asg s1 (EV.immP (ev_pick (W := wF) (m := 3) rfl ev_int (by decide) (by decide)) fun d q => by obtain ⟨j, rfl, _⟩ := q; exact inferInstance) fun d pd σ2 H2 s2 => ?_)
    obtain ⟨n, rfl, hn⟩ := pd
    have sm : SmP 13 := .inr (.inr (.inr (.inr rfl)))
    exact qs_ret1 s2 ((ev_grD sm (by omega) ev_int (ev_varI rfl) ev_int (ev_varW rfl)).to fun d q => ⟨13, n, q.symm, sm, by omega⟩) k
end
end Wk
end
section
set_option Elab.async false
set_option linter.all false
set_option maxRecDepth 100000
set_option maxHeartbeats 4000000
set_option autoImplicit false
namespace Wk
open PySem L2 Ly Mx
/-! ### bases drawn -/
def sp__law_base (K : PySem.W.Frag) (G : Ads) : Sp := spS K (α := Nat × Nat) (fun a => [grD G a.1 a.2]) (fun a => SmP a.1 ∧ a.2 ≤ 100) (fun a d => ∃ base : Code, d = .lst (base.map rowD) ∧ Bs a.1 a.2 base)
theorem e_unit {n k i : Nat} (hk : k < n) : Mx.e (unitM n k) i = if i = k then 1 else 0 := by
  unfold unitM
  by_cases q : i < n
  · rw [Mx.e_lt (by rw [List.length_map, List.length_range]; exact q), List.getElem_map, List.getElem_range]
    by_cases z : i = k
    · rw [if_pos z, if_pos z.symm]
    · rw [if_neg z, if_neg fun y => z y.symm]
  · rw [Mx.e_ge (by rw [List.length_map, List.length_range]; omega), if_neg (by omega)]
theorem un_units {p n : Nat} (hp : 2 ≤ p) : Un p n (unitsM n) := by
  refine ⟨by unfold unitsM; rw [List.length_map, List.length_range], fun k u hu => ?_⟩
  unfold unitsM at hu
  rw [List.getElem?_map] at hu
  cases q : (List.range n)[k]? with
  | none => rw [q] at hu; cases hu
  | some j =>
    rw [q] at hu
    cases hu
    obtain ⟨hk, hj⟩ := List.getElem?_eq_some_iff.mp q
    rw [List.length_range] at hk
    rw [List.getElem_range] at hj
    subst hj
    exact ⟨ok_unit hp, fun i => e_unit hk⟩
section
variable {P : Program} {w : World} {K : PySem.W.Frag} {mg : Str → Option Value} {base : Heap} {G : Ads} {f : Addr} {fd : FuncData}
variable {Z : Zn} {H0 : Hp} {L : Own} {Γ : Gam} {W : Hp → Addr → Prop} {E : XK} {t : TA} {ta tb tc td te : TE} {p n m : Nat} {d : Dt} {r s : List Int}
theorem ev_lplusP [Wd K Z L W] {PX : Int → Prop} (h1 : EV K Z H0 L Γ (wW Z) ta (Eq (.int p))) (h2 : EV K Z H0 L Γ (wW Z) tb (Eq (rowD r))) (h3 : EV K Z H0 L Γ (wW Z) tc (fun d => ∃ x : Int, d = .int x ∧ PX x)) (h4 : EV K Z H0 L Γ (wW Z) td (Eq (rowD s)))
    (hp : 0 < p) (hl : r.length = s.length) (hz : r.length ≤ 10000) (hx : ∀ x, PX x → x.natAbs < 2 ^ 64) (hs : ∀ x ∈ s, x.natAbs < 2 ^ 64) :
    EV K Z H0 L Γ W (tCall (sp__law_plus K G) [] E (tCons ta (tCons tb (tCons tc (tCons td tNil))))) (fun d => ∃ x, PX x ∧ d = rowD (plusM p r x s)) :=
  ev_callP (ea_consP h1 fun _ _ => ea_consP h2 fun _ _ => ea_consP h3 fun _ _ => ea_consP h4 fun _ _ => ea_nil) fun ds q => by
    obtain ⟨_, _, rfl, rfl, _, _, rfl, rfl, _, _, rfl, ⟨x, rfl, px⟩, _, _, rfl, rfl, rfl⟩ := q
    exact ⟨(p, r, x, s), rfl, ⟨hp, hl, hz, hx x px, hs⟩, fun d e => ⟨x, px, e.symm⟩⟩
theorem row_small {p n : Nat} {r : List Int} (o : Mx.Ok p n r) (hp : p < 1000) : ∀ x ∈ r, x.natAbs < 2 ^ 64 := fun x hx => by
  have := o.rng x hx
  omega
theorem row_at' {base : Code} {k : Nat} (h : k < base.length) : L2.atI (base.map rowD) (0 + (k : Int)) = some (rowD base[k]) := ix_nat (by omega) (by
  rw [show (0 + (k : Int)).toNat = k by omega, List.getElem?_map, List.getElem?_eq_getElem h]
  rfl)
theorem sc__law_base : FnScope ["_law_source_here", "_law_ground_here", "_law_p", "_law_rows", "_law_lap", "_law_k", "_law_place"] ["_law_source_here", "_law_ground_here"] (defScope (top 59)) := ⟨rfl, rfl, rfl, by decide +kernel, rfl, by decide +kernel, by decide +kernel⟩
theorem ok__law_base (F : Df K "_law_base" "_law_base" (top 59) f fd) (T : Txt K mg G) (c__law_units : Cl P w K mg base 1 "_law_units" (sp__law_units K G)) (c__law_plus : Cl P w K mg base 1 "_law_plus" (sp__law_plus K G)) (c__law_pick : Cl P w K mg base 1 "_law_pick" (sp__law_pick K G)) (c__law_mixed : Cl P w K mg base 2 "_law_mixed" (sp__law_mixed K G)) : FnOk P w K mg base CX0 3 f fd ["_law_source_here", "_law_ground_here"] (sp__law_base K G) := by
  have sc := sc__law_base
  refine F.ok sc (fun vs H Q E h => spS_len h fun _ => rfl) (fun cdv A outer s H vs Q E hr h => ?_)
  refine ⟨_, PSs.nox (pss_cons (ps_par (i := 2) (j := 3) (by rfl) sc.nd rfl rfl (by decide) rfl rfl (pa_cons (pe_dget (hu_of hr) (pv 1) pe_str (fun _ _ => rfl)) (pa_cons (pe_cl c__law_units hr (by decide) (by rfl) (pa_cons (pe_dget (hu_of hr) (pv 1) pe_str (fun _ _ => rfl)) pa_nil)) pa_nil)) (by rfl)) (pss_cons (ps_for PassesOwn.never rfl (pi_range1 (by rfl) T.f_range (pa_cons pe_int pa_nil)) (pg_name (i := 4) sc.nd rfl (Or.inl rfl)) (pss_cons (ps_for PassesOwn.never rfl (pi_range1 (by rfl) T.f_range (pa_cons (pe_callB (x_len (K := K)) (by rfl) T.f_len PySem.boot_len (pa_cons (pv 3) pa_nil)) pa_nil)) (pg_name (i := 5) sc.nd rfl (Or.inl rfl)) (pss_cons (ps_asg (pe_cl c__law_plus hr (by decide) (by rfl) (pa_cons (pv 2) (pa_cons (pe_op (x_mulV (K := K)) (pe_tup (pa_cons pe_int pa_nil)) (pe_callB (x_len (K := K)) (by rfl) T.f_len PySem.boot_len (pa_cons (pv 3) pa_nil))) (pa_cons (pe_op (x_add (K := K)) pe_int (pe_cl c__law_pick hr (by decide) (by rfl) (pa_cons (pv 0) (pa_cons (pe_op op_sub (pv 2) pe_int) pa_nil)))) (pa_cons (pe_ix (x_ix (K := K)) (pv 3) (pv 5) (fun _ _ => rfl)) pa_nil))))) (pg_sub (pv 3) (pv 5) set_list)) (pss_cons (ps_for PassesOwn.never rfl (pi_range1 (by rfl) T.f_range (pa_cons (pe_callB (x_len (K := K)) (by rfl) T.f_len PySem.boot_len (pa_cons (pv 3) pa_nil)) pa_nil)) (pg_name (i := 6) sc.nd rfl (Or.inl rfl)) (pss_cons (ps_asg (pe_cl c__law_plus hr (by decide) (by rfl) (pa_cons (pv 2) (pa_cons (pe_ix (x_ix (K := K)) (pv 3) (pv 5) (fun _ _ => rfl)) (pa_cons (pe_op (x_mulV (K := K)) (pe_cl c__law_pick hr (by decide) (by rfl) (pa_cons (pv 0) (pa_cons (pv 2) pa_nil))) (pe_callTy x_int (by rfl) T.f_int (by decide +kernel) (pa_cons (pe_cmpR (x_ne (K := K) hr.units) (pv 6) (pv 5) (nomark _)) pa_nil))) (pa_cons (pe_ix (x_ix (K := K)) (pv 3) (pv 6) (fun _ _ => rfl)) pa_nil))))) (pg_sub (pv 3) (pv 5) set_list)) pss_nil)) pss_nil))) (pss_cons (ps_set (i := 3) sc.nd rfl (Or.inl rfl) (pe_cl c__law_mixed hr (by decide) (by rfl) (pa_cons (pv 0) (pa_cons (pv 3) pa_nil)))) pss_nil))) (pss_cons (ps_ret (pv 3)) pss_nil))), ?_⟩
  obtain ⟨⟨p, n⟩, A', C, ws, rfl, ⟨hp, hn⟩, hS, i0, k⟩ := h
  have hn : n ≤ 100 := hn
  have hp : SmP p := hp
  have pr := hp.pr
  have plt := hp.lt
  have p2 := pr.two
  have sb : At K (Zs A' C) H [] [some (.raw (.ref A')), some (grD G p n), none, none, none, none, none] (L2.start ["_law_source_here", "_law_ground_here", "_law_p", "_law_rows", "_law_lap", "_law_k", "_law_place"] (V.ref A' :: ws)) H := at_begS (K := K) (N := ["_law_source_here", "_law_ground_here", "_law_p", "_law_rows", "_law_lap", "_law_k", "_law_place"]) hS (.cons (.raw (.ref A')) i0) rfl rfl
  refine q_parO sb (d := .int p) (ds := (unitsM n).map rowD) (ea_cons (ev_dp (ev_varW rfl)) (ea_cons (ev_lunits (ea_cons (ev_dn (ev_varW rfl)) ea_nil) (by omega)) ea_nil)) inferInstance inferInstance fun l0 σ1 H1 nl0 s1 => ?_
  refine q_forR (W := wF) (n := 2) (Inv := fun _ σ' H' => ∃ (l : Addr) (base : Code), H l = none ∧ Bs p n base ∧ At K (Zs A' C) H [(l, base.map rowD)] [some (.raw (.ref A')), some (grD G p n), some (.int p), some (.raw (.ref l)), none, none, none] σ' H') s1 (ea_cons ev_int ea_nil) (by decide) (fun H' s => ⟨l0, unitsM n, nl0, (un_units p2).bs p2, s.less (.keep (.keep (.keep (.keep (.keep (.keep (.keep .nil)))))))⟩) ?_ ?_
  · rintro lap _ σ2 H2 ⟨l, base, nl, bs, s2⟩ N kN
    have s2 := s2.set (i := 4) (d := .int (0 + (lap : Nat))) (.int _)
    have lenE : ∀ {L : Own} {Γ : Gam} {Hb : Hp} {c : Code}, Γ[3]? = some (some (.raw (.ref l))) → Bs p n c → (l, c.map rowD) ∈ L → EV K (Zs A' C) Hb L Γ (wW (Zs A' C)) (tCB (fun xs H Q => ∃ x n, xs = [x] ∧ LenV K x H n ∧ Q (.int n) H) (tCons (tVar 3) tNil)) (Eq (.int (n : Nat))) := fun {L Γ Hb c} h1 h2 h3 => EV.eq (ev_cb (ea_cons (ev_own h1 h3) ea_nil) (rc_len (.lst _))) (by rw [List.length_map, h2.len])
    refine q_for (β := Code) (I := fun _ _ b => Bs p n b) (Lf := fun _ _ b => [(l, b.map rowD)]) (Γf := fun _ _ _ => [some (.raw (.ref A')), some (grD G p n), some (.int p), some (.raw (.ref l)), some (.int (0 + (lap : Nat))), none, none]) (is := [5]) (es := fun d => [d]) s2 (it_r1 (W := wW (Zs A' C)) (n := n) (ea_cons (lenE rfl bs (by simp)) ea_nil) (by omega)) (fun _ _ _ _ => gt_name) (fun _ _ _ => rfl) (fun _ _ => ⟨base, bs, rfl, .keep (.keep (.keep (.keep (.keep (.keep (.keep .nil))))))⟩) ?_ ?_
    · intro items pi i d b hd bs H3 g3 σ3 H4 s3 N2 kN2
      subst pi
      have hlt : i < n := by
        have := (List.getElem?_eq_some_iff.mp hd).1
        rw [rngD_len] at this
        exact this
      rw [rngD_get hlt] at hd
      cases hd
      have hb : i < b.length := by rw [bs.len]; exact hlt
      have ob := bs.ok _ (List.getElem_mem hb)
      have gb : b[i]? = some b[i] := List.getElem?_eq_getElem hb
      refine q_put (n := 0) (k := i) s3 (ev_lplusP (p := p) (r := List.replicate n 0) (s := b[i]) (PX := fun x => 0 < x ∧ x < p) (ev_varW rfl) (EV.eq (ev_op (ev_tup (ea_cons ev_int ea_nil)) (lenE rfl bs (by simp)) (rr_mulZ (by omega) (by omega))) (by rw [Int.toNat_natCast]; unfold rowD; rw [List.map_replicate])) (ev_opP ev_int (fun _ _ => ev_pick (m := p - 1) rfl (EV.eq (ev_op (ev_varW rfl) ev_int rr_sub) (by congr 1; omega)) (by omega) (by omega)) fun d e p1 p3 => ?_) (ev_op (ev_own rfl (by simp)) (ev_varW rfl) (rr_ixL (row_at' hb))) (by omega) (by rw [List.length_replicate, ob.len]) (by rw [List.length_replicate]; omega) (fun x hx => by omega) (row_small ob plt)) (fun d q => by obtain ⟨x, _, rfl⟩ := q; exact inferInstance) rfl rfl inferInstance (by rw [List.length_map]; exact hb) (EV.eq (ev_varI rfl) (by simp)) fun d q H5 s5 => ?_
      · subst p1
        obtain ⟨j, rfl, hj⟩ := p3
        exact (rr_addI (K := K) (i := 1) (j := (j : Int))).to fun d q => ⟨1 + (j : Int), q.symm, by omega, by omega⟩
      obtain ⟨x, hx, rfl⟩ := q
      have e1 : plusM p (List.replicate n 0) x b[i] = scM p x b[i] := by rw [← ob.len]; exact plus_zero
      rw [e1] at s5
      have bs2 := bs.scale pr gb hx.1 hx.2
      have e2 : (b.map rowD).set i (rowD (scM p x b[i])) = (b.set i (scM p x b[i])).map rowD := by rw [List.map_set]
      have s5 : At K (Zs A' C) H3 [(l, (b.set i (scM p x b[i])).map rowD)] _ _ H5 := e2 ▸ s5
      generalize b.set i (scM p x b[i]) = b2 at *
      refine q_for (β := Code) (I := fun _ _ b => Bs p n b) (Lf := fun _ _ b => [(l, b.map rowD)]) (Γf := fun _ _ _ => [some (.raw (.ref A')), some (grD G p n), some (.int p), some (.raw (.ref l)), some (.int (0 + (lap : Nat))), some (.int (0 + (i : Nat))), none]) (is := [6]) (es := fun d => [d]) s5 (it_r1 (W := wW (Zs A' C)) (n := n) (ea_cons (lenE rfl bs2 (by simp)) ea_nil) (by omega)) (fun _ _ _ _ => gt_name) (fun _ _ _ => rfl) (fun _ _ => ⟨b2, bs2, rfl, .keep (.keep (.keep (.keep (.keep (.keep (.keep .nil))))))⟩) ?_ ?_
      · intro items pi j d c hd bs3 H6 g6 σ6 H7 s6 N3 kN3
        subst pi
        have hlt2 : j < n := by
          have := (List.getElem?_eq_some_iff.mp hd).1
          rw [rngD_len] at this
          exact this
        rw [rngD_get hlt2] at hd
        cases hd
        have hi : i < c.length := by rw [bs3.len]; exact hlt
        have hj : j < c.length := by rw [bs3.len]; exact hlt2
        have oi := bs3.ok _ (List.getElem_mem hi)
        have oj := bs3.ok _ (List.getElem_mem hj)
        refine q_put (n := 0) (k := i) s6 (ev_lplusP (p := p) (r := c[i]) (s := c[j]) (PX := fun x => (0 ≤ x ∧ x < p) ∧ (j = i → x = 0)) (ev_varW rfl) (ev_op (ev_own rfl (by simp)) (ev_varW rfl) (rr_ixL (row_at' hi))) (ev_opP (ev_pick (m := p) rfl (ev_varW rfl) (by omega) (by omega)) (fun _ _ => ev_cb (ea_cons (ev_op (ev_varW rfl) (ev_varW rfl) rr_neI) ea_nil) rc_intB) fun d e p1 p3 => ?_) (ev_op (ev_own rfl (by simp)) (ev_varW rfl) (rr_ixL (row_at' hj))) (by omega) (by rw [oi.len, oj.len]) (by rw [oi.len]; omega) (fun x hx => by omega) (row_small oj plt)) (fun d q => by obtain ⟨x, _, rfl⟩ := q; exact inferInstance) rfl rfl inferInstance (by rw [List.length_map]; exact hi) (EV.eq (ev_varI rfl) (by simp)) fun d q H8 s8 => ?_
        · subst p3
          obtain ⟨y, rfl, hy⟩ := p1
          refine (rr_mulV (K := K) (i := (y : Int)) (small_mul (by omega) (by split <;> decide))).to fun d q => ⟨_, q.symm, ?_, fun z => ?_⟩
          · split <;> omega
          · subst z
            simp
        obtain ⟨x, hx, rfl⟩ := q
        have e2 : (c.map rowD).set i (rowD (plusM p c[i] x c[j])) = (c.set i (plusM p c[i] x c[j])).map rowD := by rw [List.map_set]
        have s8 : At K (Zs A' C) H6 [(l, (c.set i (plusM p c[i] x c[j])).map rowD)] _ _ H8 := e2 ▸ s8
        exact q_next (kN3 _ σ6 H8 (bs3.addTo (by omega) (List.getElem?_eq_getElem hi) (List.getElem?_eq_getElem hj) x hx.2) (s8.less (.keep (.keep (.keep (.keep (.keep (.keep (.drop .nil)))))))))
      · intro items pi c bs3 σ6 H6 s6
        subst pi
        exact q_next (kN2 c σ6 H6 bs3 (s6.less (.keep (.keep (.keep (.keep (.keep (.drop (.keep .nil)))))))))
    · intro items pi b bs2 σ3 H3 s3
      subst pi
      refine q_ownP s3 (P := fun d => ∃ es, d = .lst es ∧ es.Perm (b.map rowD)) (ev_callS rfl (ea_cons (ev_own rfl (by simp)) ea_nil) fun ds q => ⟨b.map rowD, q.symm, ⟨inferInstance, by rw [List.length_map, bs2.len]; omega⟩, fun d q => q⟩) (fun d q => ?_) fun l2 es σ4 H4 q nl2 s4 => ?_
      · obtain ⟨es, rfl, q⟩ := q
        obtain ⟨b3, _, rfl⟩ := perm_map q b rfl
        exact ⟨_, rfl, inferInstance⟩
      · obtain ⟨es', e, q⟩ := q
        cases e
        obtain ⟨b3, q3, rfl⟩ := perm_map q b rfl
        exact q_next (kN σ4 H4 ⟨l2, b3, nl2, bs2.perm q3, (s4.drop1 nl).less (.keep (.keep (.keep (.keep (.drop (.keep (.keep .nil)))))))⟩)
  · rintro σ2 H2 ⟨l, base, nl, bs, s2⟩
    exact qs_retOwn s2 (fun q hq => by simp at hq; rw [hq]; exact nl) rfl (List.mem_singleton.mpr rfl) fun d v H' pd => k d v H' ⟨base, pd.symm, bs⟩
end
end Wk
end
section
set_option Elab.async false
set_option linter.all false
set_option maxRecDepth 100000
set_option maxHeartbeats 4000000
set_option autoImplicit false
namespace Wk
open PySem L2 Ly Mx
/-! ### nests of bases -/
theorem codeOk_red {p n : Nat} (pr : Pr p) {rows : Code} (o : ∀ r ∈ rows, Mx.Ok p n r) : CodeOk p n (redM p rows) := by
  have hc := red_ech pr o
  have hr := raw_ech pr o
  refine ⟨hc.len, hc.ok, fun i r gi => ?_⟩
  obtain ⟨j, hj, h1⟩ := hc.one r (List.mem_of_getElem? gi)
  refine ⟨j, hj, h1, fun k s hk gk => ?_, fun k s b hk gk hb => ?_⟩
  · obtain ⟨li, ei⟩ := List.getElem?_eq_some_iff.mp gi
    obtain ⟨lk, ek⟩ := List.getElem?_eq_some_iff.mp gk
    have := List.pairwise_iff_getElem.mp hc.apart k i lk li hk
    rw [ei, ek] at this
    exact this.2 j hj
  · exact srt_piv hr (show k < i by omega) gk gi hb hj
theorem codesM_at {p : Nat} {base : Code} {k : Nat} {c : Code} (h : (codesM p base)[k]? = some c) : k < base.length - 1 ∧ c = redM p (base.take (1 + k)) := by
  unfold codesM at h
  rw [List.getElem?_map] at h
  cases q : (List.range (base.length - 1))[k]? with
  | none => rw [q] at h; cases h
  | some j =>
    rw [q] at h
    cases h
    obtain ⟨hk, hj⟩ := List.getElem?_eq_some_iff.mp q
    rw [List.length_range] at hk
    rw [List.getElem_range] at hj
    subst hj
    exact ⟨hk, rfl⟩
theorem flag_bs {p n : Nat} (pr : Pr p) {base : Code} (b : Bs p n base) : FlagOk p n (codesM p base) := by
  have hp : 0 < p := Nat.lt_of_lt_of_le (by decide) pr.two
  have ot : ∀ k, ∀ r ∈ base.take k, Mx.Ok p n r := fun k r hr => b.ok r (List.mem_of_mem_take hr)
  refine ⟨by unfold codesM; rw [List.length_map, List.length_range, b.len], fun k c hc => ?_, fun k x y hx hy => ?_⟩
  · obtain ⟨hk, rfl⟩ := codesM_at hc
    refine ⟨codeOk_red pr (ot _), ?_⟩
    rw [base_len pr (un_units pr.two) b (by rw [b.len] at hk; omega)]
    omega
  · obtain ⟨hk, rfl⟩ := codesM_at hx
    obtain ⟨hk2, rfl⟩ := codesM_at hy
    rw [List.all_eq_true]
    intro r hr
    refine decide_eq_true ?_
    have e1 := red_ech pr (ot (1 + k))
    have e2 := red_ech pr (ot (1 + (k + 1)))
    refine sp_in hp e2 ((span_red pr (ot _)).mpr ?_)
    refine ((span_red pr (ot _)).mp (.mem hp e1.ok hr)).mono fun s hs => ?_
    obtain ⟨i, hi, rfl⟩ := List.getElem_of_mem hs
    rw [List.length_take] at hi
    rw [List.getElem_take]
    refine List.mem_iff_getElem.mpr ⟨i, by rw [List.length_take]; omega, ?_⟩
    rw [List.getElem_take]
theorem whole_0 {n : Nat} {cs : List Code} : wholeM n cs 0 = [] := by unfold wholeM; rw [if_pos rfl]
theorem whole_n {n : Nat} {cs : List Code} (h : 0 < n) : wholeM n cs n = unitsM n := by unfold wholeM; rw [if_neg (by omega), if_pos rfl]
theorem whole_mid {p n i : Nat} {cs : List Code} (o : FlagOk p n cs) (h1 : 0 < i) (h2 : i < n) : cs[i - 1]? = some (wholeM n cs i) := by
  have := o.len
  unfold wholeM
  rw [if_neg (by omega), if_neg (by omega), List.getD_eq_getElem?_getD, List.getElem?_eq_getElem (by omega)]
  rfl
theorem flag_whole {p n : Nat} (pr : Pr p) {cs : List Code} (o : FlagOk p n cs) : Flag p n (wholeM n cs) := by
  have hp : 0 < p := Nat.lt_of_lt_of_le (by decide) pr.two
  have un := un_units (n := n) pr.two
  have ech : ∀ i, i ≤ n → Ech p n (wholeM n cs i) := fun i hi => by
    by_cases h0 : i = 0
    · subst h0; rw [whole_0]; exact .nil
    · by_cases hn : i = n
      · subst hn; rw [whole_n (by omega)]; exact un.ech
      · exact (o.code _ _ (whole_mid o (by omega) (by omega))).1.ech
  refine ⟨ech, fun i hi => ?_, fun i hi r hr => ?_⟩
  · by_cases h0 : i = 0
    · subst h0; rw [whole_0]; rfl
    · by_cases hn : i = n
      · subst hn; rw [whole_n (by omega)]; exact un.len
      · rw [(o.code _ _ (whole_mid o (by omega) (by omega))).2]; omega
  · by_cases h0 : i = 0
    · subst h0
      rw [whole_0] at hr
      exact hr.mono fun s hs => by simp at hs
    · by_cases hn : i + 1 = n
      · rw [hn, whole_n (by omega)]
        exact (un.bs pr.two).all r (hr.ok hp (ech i (by omega)).ok)
      · have g1 := whole_mid o (show 0 < i by omega) hi
        have g2 := whole_mid o (show 0 < i + 1 by omega) (show i + 1 < n by omega)
        have e2 := ech (i + 1) (by omega)
        refine hr.sub hp e2.ok fun s hs => ?_
        have w := List.all_eq_true.mp (o.within (i - 1) _ _ g1 (by rw [show i - 1 + 1 = i + 1 - 1 by omega]; exact g2)) s hs
        exact in_sp hp e2 ((ech i (by omega)).ok s hs) (of_decide_eq_true w)
abbrev ordD (o : List Nat) : List Dt := (o.map fun i : Nat => (i : Int)).map Dt.int
theorem rng_ord (n : Nat) : rngD 0 n = ordD (List.range n) := by
  unfold rngD ordD
  rw [List.map_map]
  refine List.map_congr_left fun i _ => ?_
  show Dt.int (0 + (i : Int)) = Dt.int (i : Int)
  rw [Int.zero_add]
def sp__law_any_order (K : PySem.W.Frag) (_ : Ads) : Sp := fun vs H Q _ => ∃ (A C : Addr) (n : Nat), vs = [.ref A, .int n] ∧ n ≤ 200 ∧ Src A C H ∧
  ∀ a (order : List Nat) H', order.Perm (List.range n) → TupF H' a ((order.map fun i : Nat => (i : Int)).map V.int) → Gm (MS A C) H H' → Src A C H' → Q (.ref a) H'
theorem len_order {K : PySem.W.Frag} {G : Ads} {vs : List V} {H : Hp} {Q : VK} {E : XK} (h : sp__law_any_order K G vs H Q E) (_ : ∀ _ : Unit, () = ()) : vs.length = 2 := by
  obtain ⟨_, _, _, rfl, _⟩ := h
  rfl
theorem perm_swap {o : List Nat} {k m : Nat} (hk : k < o.length) (hm : m < o.length) (h : k ≠ m) : ((o.set k o[m]).set m o[k]).Perm o := by
  rw [List.perm_iff_count]
  intro a
  have hm2 : m < (o.set k o[m]).length := by rw [List.length_set]; exact hm
  have c1 : (if o[k] == a then 1 else 0) ≤ o.count a := by
    split
    · rename_i q
      have : o[k] = a := by simpa using q
      rw [← this]
      exact List.count_pos_iff.mpr (List.getElem_mem hk)
    · exact Nat.zero_le _
  rw [List.count_set hm2, List.count_set hk, List.getElem_set_ne h]
  by_cases q1 : (o[k] == a) = true <;> by_cases q2 : (o[m] == a) = true <;> simp only [q1, q2, if_true, if_false] at c1 ⊢ <;> omega
section
variable {P : Program} {w : World} {K : PySem.W.Frag} {mg : Str → Option Value} {base : Heap} {G : Ads} {f : Addr} {fd : FuncData}
theorem sc__law_any_order : FnScope ["_law_source_here", "_law_n", "_law_way", "_law_order", "_law_k"] ["_law_source_here", "_law_n"] (defScope (top 62)) := ⟨rfl, rfl, rfl, by decide +kernel, rfl, by decide +kernel, by decide +kernel⟩
theorem ok__law_any_order (F : Df K "_law_any_order" "_law_any_order" (top 62) f fd) (T : Txt K mg G) (c__law_pick : Cl P w K mg base 1 "_law_pick" (sp__law_pick K G)) (c__law_mixed : Cl P w K mg base 2 "_law_mixed" (sp__law_mixed K G)) : FnOk P w K mg base CX0 3 f fd ["_law_source_here", "_law_n"] (sp__law_any_order K G) := by
  have sc := sc__law_any_order
  refine F.ok sc (fun vs H Q E h => len_order h fun _ => rfl) (fun cdv A outer s H vs Q E hr h => ?_)
  refine ⟨_, PSs.nox (pss_cons (ps_par (i := 2) (j := 3) (by rfl) sc.nd rfl rfl (by decide) rfl rfl (pa_cons (pe_cl c__law_pick hr (by decide) (by rfl) (pa_cons (pv 0) (pa_cons pe_int pa_nil))) (pa_cons (pe_listRg rfl (by rfl) T.f_list (prg_1 (by rfl) T.f_range (pv 1))) pa_nil)) (by rfl)) (pss_cons (ps_if (pt_cmpR (x_eq (K := K) hr.units) (pv 2) pe_int (nomark _)) (pss_cons (ps_ret (pe_callTy (x_tupleF (K := K)) (by rfl) T.f_tuple (by decide +kernel) (pa_cons (x_rev (K := K) (pv 3)) pa_nil))) pss_nil) pss_nil) (pss_cons (ps_if (PW.pt (pw_and (pt_cmpR (x_eq (K := K) hr.units) (pv 2) pe_int (nomark _)) (pw_and1 (pt_cmpR op_gt (pv 1) pe_int (nomark _))))) (pss_cons (ps_set (i := 4) sc.nd rfl (Or.inl rfl) (pe_cl c__law_pick hr (by decide) (by rfl) (pa_cons (pv 0) (pa_cons (pe_op op_sub (pv 1) pe_int) pa_nil)))) (pss_cons (ps_asg (pe_tup (pa_cons (pe_ix (x_ix (K := K)) (pv 3) (pe_op (x_add (K := K)) (pv 4) pe_int) (fun _ _ => rfl)) (pa_cons (pe_ix (x_ix (K := K)) (pv 3) (pv 4) (fun _ _ => rfl)) pa_nil))) (x_tup (K := K) (n := 2) rfl (pgs_cons (pg_sub (pv 3) (pv 4) set_list) (pgs_cons (pg_sub (pv 3) (pe_op (x_add (K := K)) (pv 4) pe_int) set_list) pgs_nil)))) pss_nil)) pss_nil) (pss_cons (ps_ret (pe_callTy (x_tupleF (K := K)) (by rfl) T.f_tuple (by decide +kernel) (pa_cons (pe_ifExp (pt_cmpR op_lt (pv 2) pe_int (nomark _)) (pv 3) (pe_cl c__law_mixed hr (by decide) (by rfl) (pa_cons (pv 0) (pa_cons (pv 3) pa_nil)))) pa_nil))) pss_nil)))), ?_⟩
  obtain ⟨A', C, n, rfl, hn, hS, k⟩ := h
  have sb : At K (Zs A' C) H [] [some (.raw (.ref A')), some (.int n), none, none, none] (L2.start ["_law_source_here", "_law_n", "_law_way", "_law_order", "_law_k"] [.ref A', .int n]) H := at_begS (K := K) (N := ["_law_source_here", "_law_n", "_law_way", "_law_order", "_law_k"]) hS (.cons (.raw (.ref A')) (.cons (.int n) .nil)) rfl rfl
  refine q_parOP sb (PL := fun l => ∃ j : Nat, l = [.int j, .lst (ordD (List.range n))] ∧ j < 6) (EVA.to (ea_consP (ev_pick (m := 6) rfl ev_int (by decide) (by decide)) fun _ _ => ea_cons (EV.eq (ev_listRg (ev_varW rfl) (by omega)) (by rw [rng_ord])) ea_nil) fun l q => ?_) (fun l q => ?_) fun d l ds σ1 H1 q nl s1 => ?_
  · obtain ⟨d, ds, rfl, ⟨j, rfl, hj⟩, rfl⟩ := q
    exact ⟨j, rfl, hj⟩
  · obtain ⟨j, rfl, hj⟩ := q
    exact ⟨_, _, rfl, inferInstance, inferInstance⟩
  obtain ⟨j, q, hj⟩ := q
  cases q
  have fr : ∀ q ∈ [(l, ordD (List.range n))], H q.1 = none := fun q hq => by
    rw [List.mem_singleton.mp hq]
    exact nl
  refine q_if s1 (et_B (W := wF) (ev_op (ev_varW rfl) ev_int rr_eqI)) (fun _ H2 s2 => ?_) fun _ H2 s2 => ?_
  · refine ev_tupF (ns := ((List.range n).reverse.map fun i : Nat => (i : Int))) (ea_cons (EV.eq (ev_rev (ds := ordD (List.range n)) (ev_own rfl (by simp))) (by unfold ordD lstD; rw [List.map_reverse, List.map_reverse])) ea_nil) _ _ s2 _ fun a H3 hF g3 j3 => ?_
    exact k a _ H3 (List.reverse_perm _) hF ((s2.gmS fr).trans g3) j3
  refine q_next (q_ifJ (fun σ' H' => ∃ o : List Nat, o.Perm (List.range n) ∧ At K (Zs A' C) H [(l, ordD o)] [some (.raw (.ref A')), some (.int n), some (.int j), some (.raw (.ref l)), none] σ' H') s2 (et_and (b := decide ((j : Int) = 1)) (c := decide ((n : Int) > 1)) (et_test (W := wF) (ev_op (ev_varW rfl) ev_int rr_eqI)) fun _ => et_test (W := wF) (ev_op (ev_varW rfl) ev_int rr_gt)) (fun h1 H3 s3 N kN => ?_) (fun _ H3 s3 N kN => q_next (kN _ _ ⟨_, .refl _, s3⟩)) ?_)
  · rw [Bool.and_eq_true, decide_eq_true_eq, decide_eq_true_eq] at h1
    have n1 : 1 < n := by omega
    refine q_asg s3 (EV.immP (ev_pick (W := wF) (m := n - 1) rfl (EV.eq (ev_op (ev_varW rfl) ev_int rr_sub) (by congr 1; omega)) (by omega) (by omega)) fun d q => by obtain ⟨i, rfl, _⟩ := q; exact inferInstance) fun d pd σ4 H4 s4 => ?_
    obtain ⟨i, rfl, hi⟩ := pd
    have ll : (ordD (List.range n)).length = n := by simp [ordD]
    have hr : (List.range n).length = n := List.length_range
    have at' : ∀ m : Nat, (hm : m < n) → ∀ x : Int, x = m → L2.atI (ordD (List.range n)) x = some (.int ((List.range n)[m]'(by omega) : Nat)) := fun m hm x hx => ix_nat (by omega) (by
      subst hx
      rw [Int.toNat_natCast]
      simp [ordD, hm])
    refine q_swapI (n := 0) (k := i) (m := i + 1) s4 (ev_tup (ea_cons (ev_op (ev_own rfl (by simp)) (ev_op (ev_varW rfl) ev_int rr_addI) (rr_ixL (at' (i + 1) (by omega) _ (by omega)))) (ea_cons (ev_op (ev_own rfl (by simp)) (ev_varW rfl) (rr_ixL (at' i (by omega) _ rfl))) ea_nil))) rfl rfl inferInstance (by omega) (by omega) (ev_varI rfl) (fun _ => EV.eq (ev_op (ev_varW rfl) ev_int rr_addI) rfl) fun H5 s5 => q_next (kN _ _ ⟨_, perm_swap (o := List.range n) (k := i) (m := i + 1) (by omega) (by omega) (by omega), ?_⟩)
    have e1 : ∀ (o : List Nat) (a b : Nat), (ordD o).set a (.int b) = ordD (o.set a b) := fun o a b => by unfold ordD; rw [List.map_set, List.map_set]
    have s6 := s5.less (Γ' := [some (.raw (.ref A')), some (.int n), some (.int j), some (.raw (.ref l)), none]) (.keep (.keep (.keep (.keep (.drop .nil)))))
    rw [e1, e1] at s6
    exact s6
  · rintro σ4 H4 ⟨o, po, s4⟩
    have fr2 : ∀ q ∈ [(l, ordD o)], H q.1 = none := fun q hq => by
      rw [List.mem_singleton.mp hq]
      exact nl
    refine ev_tupFP (PN := fun ns => ∃ o2 : List Nat, o2.Perm (List.range n) ∧ ns = o2.map fun i : Nat => (i : Int)) (ea_consP (P := fun d => ∃ o2 : List Nat, o2.Perm (List.range n) ∧ d = .lst (ordD o2)) (ev_if (b := decide ((j : Int) < 3)) (et_test (W := wF) (ev_op (ev_varW rfl) ev_int rr_lt)) (fun _ => (ev_own rfl (by simp)).to fun d q => ⟨o, po, q.symm⟩) fun _ => (ev_callS (P := fun d => ∃ es, d = .lst es ∧ es.Perm (ordD o)) rfl (ea_cons (ev_own rfl (by simp)) ea_nil) fun ds q => ⟨ordD o, q.symm, ⟨inferInstance, by simp only [ordD, List.length_map]; have := po.length_eq; rw [List.length_range] at this; omega⟩, fun d q => q⟩).to fun d q => ?_) fun _ _ => ea_nil) (fun lq q => ?_) _ _ s4 _ fun a ns H5 q hF g5 j5 => ?_
    · obtain ⟨es, rfl, q⟩ := q
      unfold ordD at q
      rw [List.map_map] at q
      obtain ⟨o2, h1, rfl⟩ := perm_map q o rfl
      exact ⟨o2, h1.trans po, by unfold ordD; rw [List.map_map]⟩
    · obtain ⟨d, ds, rfl, ⟨o2, h1, rfl⟩, rfl⟩ := q
      exact ⟨_, rfl, o2, h1, rfl⟩
    · obtain ⟨o2, h1, rfl⟩ := q
      exact k a o2 H5 h1 hF ((s4.gmS fr2).trans g5) j5
end
end Wk
end
section
set_option Elab.async false
set_option linter.all false
set_option maxRecDepth 100000
set_option maxHeartbeats 4000000
set_option autoImplicit false
namespace Wk
open PySem L2 Ly Mx
/-! ### nests drawn -/
theorem perm_range {n : Nat} {l : List Nat} (nd : l.Nodup) (h : ∀ x ∈ l, x < n) (hl : l.length = n) : l.Perm (List.range n) := by
  have all : ∀ a, a < n → a ∈ l := fun a ha => by
    refine Classical.byContradiction fun q => ?_
    have := sub_len (l := a :: l) (k := List.range n) (List.nodup_cons.mpr ⟨q, nd⟩) fun x hx => by
      rcases List.mem_cons.mp hx with z | z
      · rw [z]; exact List.mem_range.mpr ha
      · exact List.mem_range.mpr (h x z)
    rw [List.length_cons, List.length_range] at this
    omega
  rw [List.perm_iff_count]
  intro a
  by_cases q : a ∈ l
  · rw [nd.count, List.nodup_range.count, if_pos q, if_pos (List.mem_range.mpr (h a q))]
  · rw [nd.count, List.nodup_range.count, if_neg q, if_neg fun z => q (all a (List.mem_range.mp z))]
theorem second_perm {base : Code} {o : List Nat} (po : o.Perm (List.range base.length)) : (secondM base o).Perm base := by
  have lo : o.length = base.length := by rw [po.length_eq, List.length_range]
  have mem : ∀ j, j < base.length → j ∈ o := fun j hj => po.mem_iff.mpr (List.mem_range.mpr hj)
  have h1 : ((List.range base.length).map o.idxOf).Perm (List.range base.length) := by
    refine perm_range ?_ (fun x hx => ?_) (by rw [List.length_map, List.length_range])
    · show List.Pairwise _ _
      rw [List.pairwise_map]
      refine List.Pairwise.imp_of_mem (fun {a b} ha hb hab q => hab ?_) List.nodup_range
      have m1 := mem a (List.mem_range.mp ha)
      have m2 := mem b (List.mem_range.mp hb)
      have l1 := List.idxOf_lt_length_of_mem m1
      have l2 := List.idxOf_lt_length_of_mem m2
      have e1 := List.getElem_idxOf l1
      have e2 := List.getElem_idxOf l2
      rw [← e1, ← e2]
      congr 1
    · obtain ⟨j, hj, rfl⟩ := List.mem_map.mp hx
      rw [← lo]
      exact List.idxOf_lt_length_of_mem (mem j (List.mem_range.mp hj))
  have h2 := h1.map fun i => base.getD i []
  have e1 : (List.range base.length).map (fun i => base.getD i []) = base := by
    refine List.ext_getElem (by rw [List.length_map, List.length_range]) fun i h3 h4 => ?_
    rw [List.getElem_map, List.getElem_range, List.getD_eq_getElem?_getD, List.getElem?_eq_getElem h4]
    rfl
  rw [e1, List.map_map] at h2
  unfold secondM
  rw [lo]
  exact h2
def sp__law_nest (K : PySem.W.Frag) (G : Ads) : Sp := spS K (α := Nat × Nat) (fun a => [grD G a.1 a.2]) (fun a => SmP a.1 ∧ a.2 ≤ 100) (fun a d => ∃ cs : List Code, d = nestD G a.1 a.2 cs ∧ FlagOk a.1 a.2 cs)
def sp__law_sharing_nests (K : PySem.W.Frag) (G : Ads) : Sp := spS K (α := (Nat × Nat) × Nat) (fun a => [grD G a.1.1 a.1.2, .int a.2]) (fun a => SmP a.1.1 ∧ a.1.2 ≤ 100 ∧ 1 ≤ a.2 ∧ a.2 ≤ 100)
  (fun a d => ∃ css : List (List Code), d = lnD css ∧ css.length = a.2 ∧ ∀ cs ∈ css, FlagOk a.1.1 a.1.2 cs)
theorem rows_bs {p n : Nat} {base : Code} (b : Bs p n base) (hn : n ≤ 200) : Rows p n base := ⟨by have := b.len; omega, b.ok⟩
section
variable {P : Program} {w : World} {K : PySem.W.Frag} {mg : Str → Option Value} {base : Heap} {G : Ads} {f : Addr} {fd : FuncData}
variable {A C : Addr} {H0 : Hp} {L : Own} {Γ : Gam} {W : Hp → Addr → Prop} {E E2 : XK} {t : TA} {ta tb te tn : TE} {p n m i : Nat} {d : Dt} {base' : Code}
theorem ev_lcodesP {Z : Zn} [Wd K Z L W] (h1 : EV K Z H0 L Γ (wW Z) ta (Eq (.int p))) (h2 : EV K Z H0 L Γ (wW Z) tb (fun d => ∃ base : Code, d = .lst (base.map rowD) ∧ Bs p n base)) (hp : SmP p) (hn : n ≤ 100) : EV K Z H0 L Γ W (tCall (sp__law_codes K G) [] E (tCons ta (tCons tb tNil))) (fun d => ∃ cs : List Code, d = .lst (cs.map codeD) ∧ FlagOk p n cs) :=
  ev_callP (ea_consP h1 fun _ _ => ea_consP h2 fun _ _ => ea_nil) fun ds q => by
    obtain ⟨_, _, rfl, rfl, _, _, rfl, ⟨base, rfl, bs⟩, rfl⟩ := q
    exact ⟨((p, n), base), rfl, ⟨hp.gd (Nat.le_trans hn (by decide)), rows_bs bs (Nat.le_trans hn (by decide))⟩, fun d e => ⟨codesM p base, e.symm, flag_bs hp.pr bs⟩⟩
theorem ev_lbase [Wd K (Zs A C) L W] (hi : Γ[i]? = some (some (.raw (.ref A)))) (h : EV K (Zs A C) H0 L Γ (wW (Zs A C)) te (Eq (grD G p n))) (hp : SmP p) (hn : n ≤ 100) : EV K (Zs A C) H0 L Γ W (tCall (sp__law_base K G) [] E (tCons (tVar i) (tCons te tNil))) (fun d => ∃ base : Code, d = .lst (base.map rowD) ∧ Bs p n base) :=
  ev_callS hi (ea_cons h ea_nil) fun ds q => ⟨(p, n), q.symm, ⟨hp, hn⟩, fun d q => q⟩
theorem ev_second [w : Wd K (Zs A C) L W] {i2 : Nat} (hi : Γ[i]? = some (some (.raw (.ref A)))) (hb : Γ[i2]? = some (some (.lst (base'.map rowD)))) (h : EV K (Zs A C) H0 L Γ (wW (Zs A C)) tn (Eq (.int n))) (bs : Bs p n base') (hn : n ≤ 100) :
    EV K (Zs A C) H0 L Γ W (tCall (sp__law_second K G) [] E (tCons (tVar i2) (tCons (tCall (sp__law_any_order K G) [] E2 (tCons (tVar i) (tCons tn tNil))) tNil))) (fun d => ∃ base : Code, d = .lst (base.map rowD) ∧ Bs p n base) := fun σ H a Q k => by
  obtain ⟨v, e1, e2⟩ := a.env i2 _ hb
  obtain ⟨v3, e3, e4⟩ := a.env i _ hi
  cases e4
  refine ⟨v, e1, ⟨_, e3, h σ H a _ fun d x H1 p1 g1 j1 i1 => ?_⟩⟩
  subst p1
  cases i1
  have a1 := a.step g1 j1
  refine ⟨A, C, n, rfl, by omega, j1, fun q o H2 po hF g2 j2 => ?_⟩
  have lo : o.length = n := by rw [po.length_eq, List.length_range]
  refine ⟨base', o, q, v, rfl, ⟨by rw [bs.len, lo], by omega, fun j hj => po.mem_iff.mpr (List.mem_range.mpr (by omega))⟩, ?_, hF, fun d w2 H3 pd e3 i3 => ?_⟩
  · have := e2.mono ((g1.trans g2).weak fun b m => .inl m)
    exact this.weak fun b m => m.elim
  · exact fin_ex a (g1.trans g2) j2 e3 i3 ⟨_, pd.symm, bs.perm (second_perm (by rw [bs.len]; exact po))⟩ k
end
end Wk
end
section
set_option Elab.async false
set_option linter.all false
set_option maxRecDepth 100000
set_option maxHeartbeats 4000000
set_option autoImplicit false
namespace Wk
open PySem L2 Ly Mx
/-! ### sides.py: codes turned -/
theorem pvs_len (c : Code) : (pvs c).length = c.length := List.length_map ..
theorem pl_ints (l : List Nat) : plD l = .tup ((l.map fun i : Nat => (i : Int)).map Dt.int) := by
  show Dt.tup _ = Dt.tup _
  rw [List.map_map]
  rfl
def sp_pivots (K : PySem.W.Frag) (_ : Ads) : Sp := spP K (α := (Nat × Nat) × Code) (fun a => [codeD a.2]) (fun a => Ech a.1.1 a.1.2 a.2 ∧ a.2.length ≤ 1000) (fun a d => plD (pvs a.2) = d)
def sp_turned_code (K : PySem.W.Frag) (G : Ads) : Sp := spP K (α := (Nat × Nat) × Code) (fun a => [gr G a.1.1 a.1.2, codeD a.2]) (fun a => Gd a.1.1 a.1.2 ∧ Ech a.1.1 a.1.2 a.2) (fun a d => codeD (turnM a.1.1 a.1.2 a.2) = d)
def fndM (p n : Nat) (c : Code) (i : Nat) : Code := ((List.range i).filter fun k => decide (k ∉ pvs c)).map fun k => rowT p k c (unitR n k)
theorem fnd_yes {p n i : Nat} {c : Code} (h : i ∉ pvs c) : fndM p n c (i + 1) = fndM p n c i ++ [rowT p i c (unitR n i)] := by
  unfold fndM
  rw [List.range_succ, List.filter_append, List.map_append]
  congr 1
  simp [h]
theorem fnd_no {p n i : Nat} {c : Code} (h : i ∈ pvs c) : fndM p n c (i + 1) = fndM p n c i := by
  unfold fndM
  rw [List.range_succ, List.filter_append, List.map_append]
  simp [h]
theorem fnd_all {p n : Nat} {c : Code} : fndM p n c n = foundT p n c := rfl
theorem fnd_len {p n i : Nat} {c : Code} : (fndM p n c i).length ≤ i := by
  unfold fndM
  rw [List.length_map]
  have := List.length_filter_le (fun k => decide (k ∉ pvs c)) (List.range i)
  rw [List.length_range] at this
  exact this
section
variable {P : Program} {w : World} {K : PySem.W.Frag} {mg : Str → Option Value} {base : Heap} {G : Ads} {f : Addr} {fd : FuncData}
variable {Z : Zn} {H0 : Hp} {L : Own} {Γ : Gam} {W : Hp → Addr → Prop} {E : XK} {t : TA} {te : TE} {p n m : Nat} {c : Code} {cs : List Code}
theorem ev_pivots [Wd K Z L W] (h : EVA K Z H0 L Γ (wW Z) t (Eq [codeD c])) (e : Ech p n c) (hl : c.length ≤ 1000) : EV K Z H0 L Γ W (tCall (sp_pivots K G) [] E t) (Eq (plD (pvs c))) := ev_call (x := ((p, n), c)) h ⟨e, hl⟩
theorem ev_turned_code [Wd K Z L W] (h : EVA K Z H0 L Γ (wW Z) t (Eq [gr G p n, codeD c])) (g : Gd p n) (e : Ech p n c) : EV K Z H0 L Γ W (tCall (sp_turned_code K G) [] E t) (Eq (codeD (turnM p n c))) := ev_call (x := ((p, n), c)) h ⟨g, e⟩
end
end Wk
end
section
set_option Elab.async false
set_option linter.all false
set_option maxRecDepth 100000
set_option maxHeartbeats 4000000
set_option autoImplicit false
namespace Wk
open PySem L2 Ly Mx
/-! ### nests turned -/
def turnN (p n : Nat) (cs : List Code) : List Code := (List.range (n - 1)).map fun i => turnM p n (wholeM n cs (n - (1 + i)))
theorem turnN_at {p n k : Nat} {cs : List Code} {c : Code} (h : (turnN p n cs)[k]? = some c) : k < n - 1 ∧ c = turnM p n (wholeM n cs (n - (1 + k))) := by
  unfold turnN at h
  rw [List.getElem?_map] at h
  cases q : (List.range (n - 1))[k]? with
  | none => rw [q] at h; cases h
  | some j =>
    rw [q] at h
    cases h
    obtain ⟨hk, hj⟩ := List.getElem?_eq_some_iff.mp q
    rw [List.length_range] at hk
    rw [List.getElem_range] at hj
    subst hj
    exact ⟨hk, rfl⟩
theorem flag_turn {p n : Nat} (pr : Pr p) {cs : List Code} (o : FlagOk p n cs) : FlagOk p n (turnN p n cs) := by
  have hp : 0 < p := Nat.lt_of_lt_of_le (by decide) pr.two
  have fl := flag_whole pr o
  refine ⟨by unfold turnN; rw [List.length_map, List.length_range], fun k c hc => ?_, fun k x y hx hy => ?_⟩
  · obtain ⟨hk, rfl⟩ := turnN_at hc
    have e := fl.ech (n - (1 + k)) (by omega)
    have l := len_turn pr e
    rw [fl.len _ (by omega)] at l
    exact ⟨codeOk_red pr (tri_found pr.two e).ok, by omega⟩
  · obtain ⟨hk, rfl⟩ := turnN_at hx
    obtain ⟨hk2, rfl⟩ := turnN_at hy
    rw [List.all_eq_true]
    intro r hr
    refine decide_eq_true ?_
    have e1 := fl.ech (n - (1 + k)) (by omega)
    have e2 := fl.ech (n - (1 + (k + 1))) (by omega)
    refine sp_in hp (ech_turn pr e2) ((sp_turn pr e2).mpr ?_)
    have h := (sp_turn pr e1).mp (.mem hp (ech_turn pr e1).ok hr)
    refine ⟨h.1, fun s hs => h.span e1.ok hp ?_⟩
    have := fl.sub (n - (1 + (k + 1))) (by omega) s (.mem hp e2.ok hs)
    rwa [show n - (1 + (k + 1)) + 1 = n - (1 + k) by omega] at this
theorem code_sorted {p n : Nat} {c : Code} (o : CodeOk p n c) : c.Pairwise fun x y => y ≤ x := by
  refine List.pairwise_iff_getElem.mpr fun i j hi hj hij => ?_
  have gi : c[i]? = some c[i] := List.getElem?_eq_getElem hi
  have gj : c[j]? = some c[j] := List.getElem?_eq_getElem hj
  obtain ⟨a, ha, _⟩ := o.ech.one _ (List.getElem_mem hi)
  obtain ⟨b, hb, h1⟩ := o.ech.one _ (List.getElem_mem hj)
  have lt : a < b := by
    obtain ⟨d, hd⟩ : ∃ d, j = i + d + 1 := ⟨j - i - 1, by omega⟩
    exact CodeOk.inc o (k := i) (d := d) gi (by rw [← hd]; exact gj) ha hb
  have := lt_of_first (i := a) (r := c[j]) (s := c[i]) ((o.ok _ (List.getElem_mem hj)).len.trans (o.ok _ (List.getElem_mem hi)).len.symm) (fun k hk => by rw [hb.2 k (by omega), ha.2 k hk]) (by
    rw [hb.2 a lt, o.ech.pv (List.getElem_mem hi) ha]
    decide)
  exact List.le_of_lt this
theorem whole_ok {p n i : Nat} {cs : List Code} (pr : Pr p) (o : FlagOk p n cs) (h0 : 0 < i) (h : i < n) : CodeOk p n (wholeM n cs i) := (o.code _ _ (whole_mid o h0 h)).1
theorem turnN_turnN {p n : Nat} (pr : Pr p) {cs : List Code} (o : FlagOk p n cs) : turnN p n (turnN p n cs) = cs := by
  have ot := flag_turn pr o
  refine List.ext_getElem? fun k => ?_
  by_cases q : k < n - 1
  · have h1 : (turnN p n (turnN p n cs))[k]? = some (turnM p n (wholeM n (turnN p n cs) (n - (1 + k)))) := by
      unfold turnN
      rw [List.getElem?_map, List.getElem?_range q]
      rfl
    have h2 := whole_mid ot (show 0 < n - (1 + k) by omega) (by omega)
    obtain ⟨_, h3⟩ := turnN_at h2
    have h4 := whole_mid o (show 0 < k + 1 by omega) (by omega)
    rw [h1, h3, show n - (1 + (n - (1 + k) - 1)) = k + 1 by omega, turn_turn pr (whole_ok pr o (by omega) (by omega)).ech (code_sorted (whole_ok pr o (by omega) (by omega)))]
    exact h4.symm
  · rw [List.getElem?_eq_none (by unfold turnN; rw [List.length_map, List.length_range]; omega), List.getElem?_eq_none (by rw [o.len]; omega)]
def sp_turned (K : PySem.W.Frag) (G : Ads) : Sp := spP K (α := (Nat × Nat) × List Code) (fun a => [nestD G a.1.1 a.1.2 a.2]) (fun a => Gd a.1.1 a.1.2 ∧ FlagOk a.1.1 a.1.2 a.2) (fun a d => nestD G a.1.1 a.1.2 (turnN a.1.1 a.1.2 a.2) = d)
def sp_turned_order (K : PySem.W.Frag) (_ : Ads) : Sp := spP K (α := List Nat) (fun o => [plD o]) (fun o => o.length ≤ 1000 ∧ ∀ k ∈ o, k < o.length) (fun o d => plD (turnO o) = d)
def sp_Nest__eq_ (K : PySem.W.Frag) (G : Ads) : Sp := spP K (α := (Nat × Nat) × List Code) (fun a => [nestD G a.1.1 a.1.2 a.2, nestD G a.1.1 a.1.2 a.2]) (fun _ => True) (fun _ d => d = .bl true)
theorem enc_row : Enc rowD 2 := enc_tup enc_int
theorem enc_code : Enc codeD 3 := enc_tup enc_row
theorem enc_cs : Enc csD 4 := enc_tup enc_code
theorem enc_rows : Enc (fun c : Code => Dt.lst (c.map rowD)) 3 := enc_lst enc_row
theorem enc_codes : Enc (fun c : List Code => Dt.lst (c.map codeD)) 4 := enc_lst enc_code
theorem enc_pl : Enc plD 2 := enc_tup enc_nat
section
variable {P : Program} {w : World} {K : PySem.W.Frag} {mg : Str → Option Value} {base : Heap} {G : Ads} {f : Addr} {fd : FuncData}
variable {Z : Zn} {H0 : Hp} {L : Own} {Γ : Gam} {W : Hp → Addr → Prop} {E : XK} {t ta : TA} {te : TE} {p n m : Nat} {c : Code} {cs : List Code} {o : List Nat}
theorem it_r2n {N : Addr → Prop} (h : EVA K Z H0 L Γ W ta (Eq [.int 1, .int (n : Nat)])) (hn : n ≤ 1000) : IT K Z H0 L Γ N (iRng2 ta) (Eq (rngD 1 (n - 1))) := fun σ H a R k =>
  it_r2 (lo := 1) (hi := (n : Int)) h (by omega) σ H a R fun items J H1 G Y pi => k items J H1 G Y (by rw [← pi]; congr 1; omega)
theorem ev_turned [Wd K Z L W] (h : EVA K Z H0 L Γ (wW Z) t (Eq [nestD G p n cs])) (g : Gd p n) (o : FlagOk p n cs) : EV K Z H0 L Γ W (tCall (sp_turned K G) [] E t) (Eq (nestD G p n (turnN p n cs))) := ev_call (x := ((p, n), cs)) h ⟨g, o⟩
theorem ev_turned_order [Wd K Z L W] (h : EVA K Z H0 L Γ (wW Z) t (Eq [plD o])) (h1 : o.length ≤ 1000) (h2 : ∀ k ∈ o, k < o.length) : EV K Z H0 L Γ W (tCall (sp_turned_order K G) [] E t) (Eq (plD (turnO o))) := ev_call (x := o) h ⟨h1, h2⟩
theorem sc_Nest__eq_ : FnScope ["self", "other"] ["self", "other"] (defScope (inClass (top 35) 1)) := ⟨rfl, rfl, rfl, by decide +kernel, rfl, by decide +kernel, by decide +kernel⟩
theorem ok_Nest__eq_ (F : Df K "__eq__" "Nest.__eq__" (inClass (top 35) 1) f fd) (T : Txt K mg G) (c_Ground_eq : Eqs P w K mg base 1 G.Ground (sp_Ground__eq_ K G)) : FnOk P w K mg base CX0 3 f fd ["self", "other"] (sp_Nest__eq_ K G) := by
  have sc := sc_Nest__eq_
  refine F.ok sc (fun vs H Q E h => spP_len h fun _ => rfl) (fun cdv A outer s H vs Q E hr h => ?_)
  refine ⟨_, PSs.nox (pss_cons (ps_if (pt_not (pt_val (pe_callB (x_isi (K := K)) (by rfl) T.f_isinstance (by decide +kernel) (pa_cons (pv 1) (pa_cons (pe_glob (v := .ref G.Nest) (by rfl) T.g_Nest rfl) pa_nil))))) (pss_cons (ps_ret pe_bl) pss_nil) pss_nil) (pss_cons (ps_ret (pe_and (pe_cmpR (op_ownE c_Ground_eq hr (by decide)) (x_fld (K := K) (pv 0)) (x_fld (K := K) (pv 1)) (nomark _)) (pe_one (pe_cmpR (x_eq (K := K) hr.units) (x_fld (K := K) (pv 0)) (x_fld (K := K) (pv 1)) (nomark _))))) pss_nil)), ?_⟩
  obtain ⟨⟨⟨p, n⟩, cs⟩, pre, hargs, k⟩ := h
  have st : At K z0 H [] [some (nestD G p n cs), some (nestD G p n cs)] (L2.start ["self", "other"] vs) H := at_beg hargs rfl rfl
  refine q_if st (EVT.eq (c := false) (et_not (b := true) (et_test (W := wF) (ev_cb (ea_cons (ev_varW rfl) (ea_cons (ev_c fun _ _ => .raw _) ea_nil)) (rc_isiO T.i_Nest)))) rfl) (fun z => nomatch z) fun _ H1 s1 => ?_
  refine q_next (q_ret1 (P := Eq (.bl true)) s1 (EV.eq (ev_andV (W1 := wF) (W2 := wF) (b := true) (c := true) (EV.eq (ev_op (ev_fog T (ev_varW rfl)) (ev_fog T (ev_varW rfl)) (rr_own (r := true) (((p, n), (p, n)) : (Nat × Nat) × (Nat × Nat)) rfl trivial fun d q => q.trans (by simp))) rfl) fun _ => EV.eq (ev_op (ev_foc T (ev_varW rfl)) (ev_foc T (ev_varW rfl)) (rr_eqE enc_cs)) (by simp)) rfl) (fun d v H' q e i => k d v H' q.symm e i))
end
end Wk
end
section
set_option Elab.async false
set_option linter.all false
set_option maxRecDepth 100000
set_option maxHeartbeats 4000000
set_option autoImplicit false
namespace Wk
open PySem L2 Ly Mx
/-! ### the law's own turning, ranks and orders -/
def intsOf (d : List Nat) : List Int := d.map fun i : Nat => (i : Int)
theorem pl_row (d : List Nat) : plD d = rowD (intsOf d) := pl_ints d
theorem mem_dig {p : Nat} : ∀ {n : Nat} {x : List Nat}, x ∈ digM p n ↔ x.length = n ∧ ∀ k ∈ x, k < p
  | 0, x => by
    show x ∈ [[]] ↔ _
    rw [List.mem_singleton]
    constructor
    · rintro rfl
      exact ⟨rfl, fun _ h => nomatch h⟩
    · exact fun h => List.length_eq_zero_iff.mp h.1
  | n + 1, x => by
    show x ∈ stepDig p (digM p n) ↔ _
    unfold stepDig
    rw [List.mem_flatMap]
    constructor
    · rintro ⟨y, hy, h⟩
      obtain ⟨k, hk, rfl⟩ := List.mem_map.mp h
      obtain ⟨h1, h2⟩ := mem_dig.mp hy
      refine ⟨by rw [List.length_append, h1]; rfl, fun z hz => ?_⟩
      rcases List.mem_append.mp hz with q | q
      · exact h2 z q
      · rw [List.mem_singleton.mp q]; exact List.mem_range.mp hk
    · rintro ⟨h1, h2⟩
      have ne : x ≠ [] := fun z => by rw [z] at h1; cases h1
      refine ⟨x.dropLast, mem_dig.mpr ⟨by rw [List.length_dropLast, h1]; rfl, fun k hk => h2 k ((List.dropLast_sublist x).mem hk)⟩, List.mem_map.mpr ⟨x.getLast ne, List.mem_range.mpr (h2 _ (List.getLast_mem ne)), List.dropLast_concat_getLast ne⟩⟩
theorem mem_rows {p n : Nat} {r : List Int} : (∃ x ∈ digM p n, intsOf x = r) ↔ Mx.Ok p n r := by
  constructor
  · rintro ⟨x, hx, rfl⟩
    obtain ⟨h1, h2⟩ := mem_dig.mp hx
    refine ⟨by unfold intsOf; rw [List.length_map, h1], fun z hz => ?_⟩
    obtain ⟨k, hk, rfl⟩ := List.mem_map.mp hz
    have := h2 k hk
    omega
  · intro o
    have e : intsOf (r.map Int.toNat) = r := by
      unfold intsOf
      rw [List.map_map]
      refine (List.map_congr_left fun z hz => ?_).trans (List.map_id r)
      have := o.rng z hz
      show ((z.toNat : Nat) : Int) = z
      omega
    refine ⟨r.map Int.toNat, mem_dig.mpr ⟨by rw [List.length_map, o.len], fun k hk => ?_⟩, e⟩
    obtain ⟨z, hz, rfl⟩ := List.mem_map.mp hk
    have := o.rng z hz
    omega
def sp__law_product (K : PySem.W.Frag) (_ : Ads) : Sp := spP K (α := Nat × List Int × List Int) (fun a => [.int a.1, rowD a.2.1, rowD a.2.2]) (fun a => 0 < a.1 ∧ a.2.1.length = a.2.2.length ∧ a.2.1.length ≤ 1000 ∧ (∀ x ∈ a.2.1, x.natAbs < 2 ^ 64) ∧ ∀ x ∈ a.2.2, x.natAbs < 2 ^ 64) (fun a d => .int (dot a.2.1 a.2.2 % a.1) = d)
def sp__law_turned (K : PySem.W.Frag) (G : Ads) : Sp := spP K (α := (Nat × Nat) × Code) (fun a => [grD G a.1.1 a.1.2, codeD a.2]) (fun a => Gd a.1.1 a.1.2 ∧ Ech a.1.1 a.1.2 a.2 ∧ DigOk a.1.1 a.1.2 ∧ a.1.1 ^ a.1.2 ≤ 1000) (fun a d => codeD (turnM a.1.1 a.1.2 a.2) = d)
def acr (p : Nat) (c : Code) (x : List Nat) : Bool := decide (c.filter (fun s => decide (dot s (intsOf x) % p ≠ 0)) = [])
theorem acr_iff {p n : Nat} {c : Code} {x : List Nat} (hx : x ∈ digM p n) : acr p c x = true ↔ Orth p n c (intsOf x) := by
  unfold acr
  rw [decide_eq_true_eq, List.filter_eq_nil_iff]
  constructor
  · intro h
    refine ⟨mem_rows.mp ⟨x, hx, rfl⟩, fun s hs => ?_⟩
    have := h s hs
    simpa using this
  · intro h s hs
    have := h.2 s hs
    simp [this]
theorem turn_acr {p n : Nat} {c : Code} (pr : Pr p) (ec : Ech p n c) : redM p (((digM p n).filter (acr p c)).map intsOf) = turnM p n c := turn_all pr ec fun r => by
  constructor
  · intro h
    obtain ⟨x, hx, rfl⟩ := List.mem_map.mp h
    obtain ⟨h1, h2⟩ := List.mem_filter.mp hx
    exact (acr_iff h1).mp h2
  · intro h
    obtain ⟨x, hx, rfl⟩ := mem_rows.mpr h.1
    exact List.mem_map.mpr ⟨x, List.mem_filter.mpr ⟨hx, (acr_iff hx).mpr h⟩, rfl⟩
/-- the ranks of common codes, by those of joined ones -/
def rkL (p : Nat) (A B : List Code) (i j : Nat) : Int := (i : Int) + j - ((joi p (A.getD i []) (B.getD j [])).length : Nat)
structure TbOk (p n : Nat) (A : List Code) : Prop where
  len : A.length = n + 1
  rows : ∀ c ∈ A, Rows p n c
def sp__law_table (K : PySem.W.Frag) (_ : Ads) : Sp := spP0 K (α := (Nat × Nat) × List Code × List Code) (fun a => [.int a.1.1, .int a.1.2, .lst (a.2.1.map codeD), .lst (a.2.2.map codeD)]) (fun a => Gd a.1.1 a.1.2 ∧ TbOk a.1.1 a.1.2 a.2.1 ∧ TbOk a.1.1 a.1.2 a.2.2)
  (fun a d => .lst ((List.range (a.1.2 + 1)).map fun i => lstD ((List.range (a.1.2 + 1)).map fun j => rkL a.1.1 a.2.1 a.2.2 i j)) = d)
structure OrdOf (p n : Nat) (A B : List Code) (o : List Nat) : Prop where
  len : o.length = n
  at' : ∀ i, i < n → ((List.range n).filter fun j => decide (rkL p A B i (j + 1) < rkL p A B (i + 1) (j + 1)))[0]? = o[i]?
def sp__law_order_of (K : PySem.W.Frag) (G : Ads) : Sp := spP K (α := (Nat × Nat) × List Code × List Code × List Nat) (fun a => [grD G a.1.1 a.1.2, nestD G a.1.1 a.1.2 a.2.1, nestD G a.1.1 a.1.2 a.2.2.1])
  (fun a => Gd a.1.1 a.1.2 ∧ FlagOk a.1.1 a.1.2 a.2.1 ∧ FlagOk a.1.1 a.1.2 a.2.2.1 ∧ OrdOf a.1.1 a.1.2 (wholeL a.1.2 a.2.1) (wholeL a.1.2 a.2.2.1) a.2.2.2) (fun a d => plD a.2.2.2 = d)
def sp__law_inversions (K : PySem.W.Frag) (_ : Ads) : Sp := spP K (α := List Nat) (fun o => [plD o]) (fun o => o.length ≤ 1000) (fun o d => .int (invO (fun a => (ordN o a : Nat)) o.length : Nat) = d)
theorem tb_whole {p n : Nat} {cs : List Code} (g : Gd p n) (o : FlagOk p n cs) : TbOk p n (wholeL n cs) := by
  refine ⟨?_, fun c hc => ?_⟩
  · unfold wholeL
    rw [List.length_append, List.length_cons, o.len]
    by_cases q : 0 < n
    · rw [if_pos q]
      simp
      omega
    · rw [if_neg q]
      simp
      omega
  · unfold wholeL at hc
    rcases List.mem_append.mp hc with q | q
    · rcases List.mem_cons.mp q with q | q
      · rw [q]
        exact ⟨by decide, fun _ h => nomatch h⟩
      · obtain ⟨k, hk⟩ := List.mem_iff_getElem?.mp q
        exact rows_ech g (o.code k _ hk).1.ech
    · split at q
      · rw [List.mem_singleton.mp q]
        exact rows_units g
      · cases q
theorem whole_getD {p n i : Nat} {cs : List Code} (o : FlagOk p n cs) (hi : i ≤ n) : (wholeL n cs).getD i [] = wholeM n cs i := by
  rw [List.getD_eq_getElem?_getD, whole_at o.len hi]
  rfl
theorem sum_nat : ∀ l : List Nat, (l.map fun i : Nat => (i : Int)).sum = (l.sum : Nat)
  | [] => rfl
  | x :: l => by
    rw [List.map_cons, List.sum_cons, List.sum_cons, sum_nat l]
    omega
theorem ord_at {o : List Nat} {a : Nat} (h : a < o.length) : L2.atI (o.map fun i : Nat => Dt.int i) (0 + (a : Int)) = some (.int (ordN o a : Nat)) := ix_nat (by omega) (by
  rw [show (0 + (a : Int)).toNat = a by omega, List.getElem?_map, List.getElem?_eq_getElem h]
  unfold ordN
  rw [List.getD_eq_getElem?_getD, List.getElem?_eq_getElem h]
  rfl)
theorem ord_len_map {o : List Nat} {n : Nat} (h : o.length = n) : (List.range n).map (ordN o) = o := by
  refine List.ext_getElem (by rw [List.length_map, List.length_range, h]) fun i h3 h4 => ?_
  rw [List.getElem_map, List.getElem_range]
  unfold ordN
  rw [List.getD_eq_getElem?_getD, List.getElem?_eq_getElem h4]
  rfl
section
variable {P : Program} {w : World} {K : PySem.W.Frag} {mg : Str → Option Value} {base : Heap} {G : Ads} {f : Addr} {fd : FuncData}
variable {Z : Zn} {H0 : Hp} {L : Own} {Γ : Gam} {W : Hp → Addr → Prop} {E : XK} {t ta : TA} {te : TE} {p n m : Nat} {c : Code} {cs : List Code} {o : List Nat} {r s : List Int} {one two : List Code}
theorem ev_lproduct [Wd K Z L W] (h : EVA K Z H0 L Γ (wW Z) t (Eq [.int p, rowD r, rowD s])) (h1 : 0 < p) (h2 : r.length = s.length) (h3 : r.length ≤ 1000) (h4 : ∀ x ∈ r, x.natAbs < 2 ^ 64) (h5 : ∀ x ∈ s, x.natAbs < 2 ^ 64) : EV K Z H0 L Γ W (tCall (sp__law_product K G) [] E t) (Eq (.int (dot r s % p))) := ev_call (x := (p, r, s)) h ⟨h1, h2, h3, h4, h5⟩
theorem ev_lturned [Wd K Z L W] (h : EVA K Z H0 L Γ (wW Z) t (Eq [grD G p n, codeD c])) (g : Gd p n) (e : Ech p n c) (dk : DigOk p n) (dl : p ^ n ≤ 1000) : EV K Z H0 L Γ W (tCall (sp__law_turned K G) [] E t) (Eq (codeD (turnM p n c))) := ev_call (x := ((p, n), c)) h ⟨g, e, dk, dl⟩
theorem ev_lorder_of [Wd K Z L W] (h : EVA K Z H0 L Γ (wW Z) t (Eq [grD G p n, nestD G p n one, nestD G p n two])) (g : Gd p n) (h1 : FlagOk p n one) (h2 : FlagOk p n two) (h3 : OrdOf p n (wholeL n one) (wholeL n two) o) : EV K Z H0 L Γ W (tCall (sp__law_order_of K G) [] E t) (Eq (plD o)) := ev_call (x := ((p, n), one, two, o)) h ⟨g, h1, h2, h3⟩
theorem ev_linversions [Wd K Z L W] (h : EVA K Z H0 L Γ (wW Z) t (Eq [plD o])) (hl : o.length ≤ 1000) : EV K Z H0 L Γ W (tCall (sp__law_inversions K G) [] E t) (Eq (.int (invO (fun a => (ordN o a : Nat)) o.length : Nat))) := ev_call (x := o) h hl
end
end Wk
end
section
set_option Elab.async false
set_option linter.all false
set_option maxRecDepth 100000
set_option maxHeartbeats 4000000
set_option autoImplicit false
namespace Wk
open PySem L2 Ly Mx
/-! ### grounds, codes, pairs drawn -/
structure SideOk (p n : Nat) : Prop where
  pr : SmP p
  le : n ≤ 5
  pow : p ^ n ≤ 400
theorem SideOk.dig {p n : Nat} (h : SideOk p n) : DigOk p n := ⟨by have := h.pr; unfold SmP at this; omega, by have := h.le; omega, Nat.le_trans h.pow (by decide)⟩
def sp__law_side_ground (K : PySem.W.Frag) (G : Ads) : Sp := spS K (α := Unit) (fun _ => []) (fun _ => True) (fun _ d => ∃ p n : Nat, d = grD G p n ∧ SideOk p n)
def sp__law_any_code (K : PySem.W.Frag) (G : Ads) : Sp := spS K (α := Nat × Nat) (fun a => [grD G a.1 a.2]) (fun a => SmP a.1 ∧ a.2 ≤ 100) (fun a d => ∃ c : Code, d = codeD c ∧ CodeOk a.1 a.2 c)
/-- a pair of nests of one base, their order, the base -/
def prD (G : Ads) (p n : Nat) (base : Code) (o : List Nat) : Dt := .dct [(ks "f", nestD G p n (codesM p base)), (ks "g", nestD G p n (codesM p (secondM base o))), (ks "order", plD o), (ks "frame", codeD base)]
def sp__law_pair (K : PySem.W.Frag) (G : Ads) : Sp := spS K (α := Nat × Nat) (fun a => [grD G a.1 a.2]) (fun a => SmP a.1 ∧ a.2 ≤ 100) (fun a d => ∃ (base : Code) (o : List Nat), d = prD G a.1 a.2 base o ∧ Bs a.1 a.2 base ∧ o.Perm (List.range a.2))
section
variable {P : Program} {w : World} {K : PySem.W.Frag} {mg : Str → Option Value} {base : Heap} {G : Ads} {f : Addr} {fd : FuncData}
variable {A C : Addr} {Z : Zn} {H0 : Hp} {L : Own} {Γ : Gam} {W : Hp → Addr → Prop} {E : XK} {t : TA} {ta tb te tn : TE} {p n m i : Nat} {d : Dt} {base' : Code} {o : List Nat}
theorem ev_any_order [w : Wd K (Zs A C) L W] {PN : Nat → Prop} (hi : Γ[i]? = some (some (.raw (.ref A)))) (h : EV K (Zs A C) H0 L Γ (wW (Zs A C)) tn (fun d => ∃ n : Nat, d = .int n ∧ n ≤ 200 ∧ PN n)) :
    EV K (Zs A C) H0 L Γ W (tCall (sp__law_any_order K G) [] E (tCons (tVar i) (tCons tn tNil))) (fun d => ∃ (n : Nat) (o : List Nat), d = plD o ∧ PN n ∧ n ≤ 200 ∧ o.Perm (List.range n)) := fun σ H a Q k => by
  obtain ⟨v3, e3, e4⟩ := a.env i _ hi
  cases e4
  refine ⟨_, e3, h σ H a _ fun d x H1 p1 g1 j1 i1 => ?_⟩
  obtain ⟨n, rfl, hn, pn⟩ := p1
  cases i1
  refine ⟨A, C, n, rfl, hn, j1, fun q o H2 po hF g2 j2 => k (plD o) _ H2 ⟨n, o, rfl, pn, hn, po⟩ (g1.trans g2) j2 ?_⟩
  rw [pl_ints]
  exact .tup hF.sq (IsL.ofInts _)
theorem sc__law_pair : FnScope ["_law_source_here", "_law_ground_here", "_law_base_here", "_law_order", "_law_f", "_law_g"] ["_law_source_here", "_law_ground_here"] (defScope (top 64)) := ⟨rfl, rfl, rfl, by decide +kernel, rfl, by decide +kernel, by decide +kernel⟩
theorem ok__law_pair (F : Df K "_law_pair" "_law_pair" (top 64) f fd) (T : Txt K mg G) (c__law_any_order : Cl P w K mg base 3 "_law_any_order" (sp__law_any_order K G)) (c__law_base : Cl P w K mg base 3 "_law_base" (sp__law_base K G)) (c__law_codes : Cl P w K mg base 3 "_law_codes" (sp__law_codes K G)) (c__law_second : Cl P w K mg base 1 "_law_second" (sp__law_second K G)) (c_Nest__init_ : Ma P w K mg base 8 "Nest" G.Nest (sp_Nest__init_ K G)) : FnOk P w K mg base CX0 10 f fd ["_law_source_here", "_law_ground_here"] (sp__law_pair K G) := by
  have sc := sc__law_pair
  refine F.ok sc (fun vs H Q E h => spS_len h fun _ => rfl) (fun cdv A outer s H vs Q E hr h => ?_)
  refine ⟨_, PSs.nox (pss_cons (ps_par (i := 2) (j := 3) (by rfl) sc.nd rfl rfl (by decide) rfl rfl (pa_cons (pe_cl c__law_base hr (by decide) (by rfl) (pa_cons (pv 0) (pa_cons (pv 1) pa_nil))) (pa_cons (pe_cl c__law_any_order hr (by decide) (by rfl) (pa_cons (pv 0) (pa_cons (pe_dget (hu_of hr) (pv 1) pe_str (fun _ _ => rfl)) pa_nil))) pa_nil)) (by rfl)) (pss_cons (ps_par (i := 4) (j := 5) (by rfl) sc.nd rfl rfl (by decide) rfl rfl (pa_cons (pe_cl c__law_codes hr (by decide) (by rfl) (pa_cons (pe_dget (hu_of hr) (pv 1) pe_str (fun _ _ => rfl)) (pa_cons (pv 2) pa_nil))) (pa_cons (pe_cl c__law_codes hr (by decide) (by rfl) (pa_cons (pe_dget (hu_of hr) (pv 1) pe_str (fun _ _ => rfl)) (pa_cons (pe_cl c__law_second hr (by decide) (by rfl) (pa_cons (pv 2) (pa_cons (pv 3) pa_nil))) pa_nil))) pa_nil)) (by rfl)) (pss_cons (ps_ret (pe_disp (pps_cons pe_str (pe_ma c_Nest__init_ hr (by decide) (by rfl) (pa_cons (pe_dget (hu_of hr) (pv 1) pe_str (fun _ _ => rfl)) (pa_cons (pv 4) pa_nil))) (pps_cons pe_str (pe_ma c_Nest__init_ hr (by decide) (by rfl) (pa_cons (pe_dget (hu_of hr) (pv 1) pe_str (fun _ _ => rfl)) (pa_cons (pv 5) pa_nil))) (pps_cons pe_str (pv 3) (pps_cons pe_str (pe_callTy (x_tuple (K := K)) (by rfl) T.f_tuple (by decide +kernel) (pa_cons (pv 2) pa_nil)) pps_nil)))) (by rfl) (by rfl) (fun z => by cases z) (by decide))) pss_nil))), ?_⟩
  obtain ⟨⟨p, n⟩, A', C, ws, rfl, ⟨hp, hn⟩, hS, i0, k⟩ := h
  have hp : SmP p := hp
  have hn : n ≤ 100 := hn
  have g : Gd p n := hp.gd (by omega)
  have sb : At K (Zs A' C) H [] [some (.raw (.ref A')), some (grD G p n), none, none, none, none] (L2.start ["_law_source_here", "_law_ground_here", "_law_base_here", "_law_order", "_law_f", "_law_g"] (V.ref A' :: ws)) H := at_begS (K := K) (N := ["_law_source_here", "_law_ground_here", "_law_base_here", "_law_order", "_law_f", "_law_g"]) hS (.cons (.raw (.ref A')) i0) rfl rfl
  refine ev_lbase (W := wW (Zs A' C)) rfl (ev_varW rfl) hp hn _ _ sb _ fun d v H1 pd g1 j1 i1 => ?_
  obtain ⟨base, rfl, bs⟩ := pd
  have s1 := sb.step g1 j1
  refine ⟨_, rfl, ev_dn (W := wF) (ev_varW rfl) _ _ s1 _ fun d x H2 p2 g2 j2 i2 => ?_⟩
  subst p2
  cases i2
  refine ⟨A', C, n, rfl, by omega, j2, fun q o H3 po hF g3 j3 => ?_⟩
  refine ⟨_, _, rfl, ?_⟩
  have lo : o.length = n := by rw [po.length_eq, List.length_range]
  have s3 := (((s1.step g2 j2).step g3 j3).set (i := 2) ((i1.mono (g2.trans g3)).weak fun b m => m.elim id fun q => nomatch q)).set (i := 3) (d := plD o) (v := .ref q) (by rw [pl_ints]; exact .tup hF.sq (IsL.ofInts _))
  have b2 := bs.perm (second_perm (base := base) (o := o) (by rw [bs.len]; exact po))
  refine ev_lcodes (W := wS (Zs A' C) []) (ea_cons (ev_dp (ev_varW rfl)) (ea_cons (ev_varW rfl) ea_nil)) g (rows_bs bs (by omega)) _ _ s3 _ fun d v4 H4 p4 g4 j4 i4 => ?_
  subst p4
  have s4 := s3.step g4 j4
  refine ev_dp (W := wF) (ev_varW rfl) _ _ s4 _ fun d x H5 p5 g5 j5 i5 => ?_
  subst p5
  cases i5
  have s5 := s4.step g5 j5
  obtain ⟨vb, e1, e2⟩ := s5.env 2 _ rfl
  have h3 : (((L2.start ["_law_source_here", "_law_ground_here", "_law_base_here", "_law_order", "_law_f", "_law_g"] (V.ref A' :: ws)).set 2 (some v)).set 3 (some (V.ref q)))[3]? = some (some (V.ref q)) := List.getElem?_set_self (by rw [List.length_set, sb.len]; show 3 < 6; decide)
  refine ⟨vb, e1, _, h3, base, o, q, vb, rfl, ⟨by rw [bs.len, lo], by omega, fun j hj => po.mem_iff.mpr (List.mem_range.mpr (by omega))⟩, e2.weak fun _ m => m.elim, (hF.gm g4).gm g5, fun d v6 H6 p6 ex6 i6 => ?_⟩
  subst p6
  have x6 := s5.ex ex6
  refine ⟨((p, n), secondM base o), ⟨g, rows_bs b2 (by show n ≤ 200; omega)⟩, .cons (.int _) (.cons (i6.weak fun _ m => m.elim) .nil), fun d v7 H7 p7 ex7 i7 => ?_⟩
  subst p7
  have s6 := s5.step x6.1 x6.2
  have x7 := s6.ex ex7
  refine ⟨_, _, rfl, ?_⟩
  have mz : ∀ b, (Zs A' C).M b → Mt (Zs A' C) [] b := fun b m => mt_z m
  have s7 := ((s6.step x7.1 x7.2).set (i := 4) (d := .lst ((codesM p base).map codeD)) (((i4.mono (g5.weak mz)).mono (x6.1.weak mz)).mono (x7.1.weak mz))).set (i := 5) (d := .lst ((codesM p (secondM base o)).map codeD)) (i7.weak fun b m => s6.ne m)
  exact qs_ret1 s7 ((ev_disp (ep_cons ev_str (ev_nest (ea_cons (ev_dmade (ev_varW rfl)) (ea_cons (ev_varW rfl) ea_nil)) (.lst _) g (flag_bs hp.pr bs)) (ep_cons ev_str (ev_nest (ea_cons (ev_dmade (ev_varW rfl)) (ea_cons (ev_varW rfl) ea_nil)) (.lst _) g (flag_bs hp.pr b2)) (ep_cons ev_str (ev_varI rfl) (ep_cons ev_str (ev_cb (ea_cons (ev_varW rfl) ea_nil) (rc_tuple (.lst _))) ep_nil)))) (show ([ks "f", ks "g", ks "order", ks "frame"] : List Key).Nodup by decide) (show 4 ≤ 15 by decide)).to fun d q => ⟨base, o, q.symm, bs, po⟩) k
end
end Wk
end
section
set_option Elab.async false
set_option linter.all false
set_option maxRecDepth 100000
set_option maxHeartbeats 4000000
set_option autoImplicit false
namespace Wk
open PySem L2 Ly Mx
/-! ### the order of nests turned -/
theorem whole_turn {p n : Nat} (pr : Pr p) {cs : List Code} (o : FlagOk p n cs) {i : Nat} (hi : i ≤ n) {x : List Int} : Sp p n (wholeM n (turnN p n cs) i) x ↔ Orth p n (wholeM n cs (n - i)) x := by
  have fl := flag_whole pr o
  by_cases h0 : i = 0
  · subst h0
    have e := fl.ech n (Nat.le_refl _)
    have l := len_turn pr e
    rw [fl.len n (Nat.le_refl _)] at l
    have z : turnM p n (wholeM n cs n) = [] := List.length_eq_zero_iff.mp (by omega)
    rw [whole_0, ← z, Nat.sub_zero]
    exact sp_turn pr e
  · by_cases hn : i = n
    · subst hn
      rw [whole_n (by omega), Nat.sub_self, whole_0]
      have bs := (un_units (n := i) pr.two).bs pr.two
      exact ⟨fun h => ⟨h.ok (Nat.lt_of_lt_of_le (by decide) pr.two) bs.ok, fun _ h => nomatch h⟩, fun h => bs.all x h.1⟩
    · obtain ⟨_, h⟩ := turnN_at (whole_mid (flag_turn pr o) (show 0 < i by omega) (by omega))
      rw [h, show n - (1 + (i - 1)) = n - i by omega]
      exact sp_turn pr (fl.ech (n - i) (by omega))
theorem sp_take {p n : Nat} (pr : Pr p) {b : Code} (bs : Bs p n b) {k : Nat} (hk : k ≤ n) {r : List Int} : Sp p n (wholeM n (codesM p b) k) r ↔ Sp p n (b.take k) r := by
  by_cases h0 : k = 0
  · subst h0
    rw [whole_0]
    exact Iff.rfl
  · by_cases hn : k = n
    · subst hn
      rw [whole_n (by omega), ← bs.len, List.take_length]
      have us := (un_units (n := k) pr.two).bs pr.two
      have p0 : 0 < p := Nat.lt_of_lt_of_le (by decide) pr.two
      rw [bs.len]
      exact ⟨fun h => bs.all r (h.ok p0 us.ok), fun h => us.all r (h.ok p0 bs.ok)⟩
    · obtain ⟨_, h⟩ := codesM_at (whole_mid (flag_bs pr bs) (show 0 < k by omega) (by omega))
      rw [h, show 1 + (k - 1) = k by omega]
      exact span_red pr fun r hr => bs.ok r (List.mem_of_mem_take hr)
theorem mem_take {b : Code} {k : Nat} {r : List Int} : r ∈ b.take k ↔ ∃ a, a < k ∧ b[a]? = some r := by
  constructor
  · intro h
    obtain ⟨a, ha⟩ := List.mem_iff_getElem?.mp h
    rw [List.getElem?_take] at ha
    split at ha
    · exact ⟨a, by assumption, ha⟩
    · cases ha
  · rintro ⟨a, h1, h2⟩
    exact List.mem_iff_getElem?.mpr ⟨a, by rw [List.getElem?_take, if_pos h1]; exact h2⟩
theorem sp_first {p n : Nat} (pr : Pr p) {b : Code} (bs : Bs p n b) {k : Nat} (hk : k ≤ n) {r : List Int} : Sp p n (wholeM n (codesM p b) k) r ↔ Sp p n (rowsAt b n fun a => decide (a < k)) r := by
  rw [sp_take pr bs hk]
  refine ⟨fun h => h.mono fun s hs => ?_, fun h => h.mono fun s hs => ?_⟩
  · obtain ⟨a, h1, h2⟩ := mem_take.mp hs
    exact (mem_rowsAt bs).mpr ⟨a, decide_eq_true h1, h2⟩
  · obtain ⟨a, h1, h2⟩ := (mem_rowsAt bs).mp hs
    exact mem_take.mpr ⟨a, of_decide_eq_true h1, h2⟩
theorem second_at {b : Code} {o : List Nat} {j : Nat} (hj : j < o.length) : (secondM b o)[j]? = some (b.getD (o.idxOf j) []) := by
  unfold secondM
  rw [List.getElem?_map, List.getElem?_range hj]
  rfl
theorem sp_secnd {p n : Nat} (pr : Pr p) {b : Code} (bs : Bs p n b) {o : List Nat} (po : o.Perm (List.range n)) {k : Nat} (hk : k ≤ n) {r : List Int} : Sp p n (wholeM n (codesM p (secondM b o)) k) r ↔ Sp p n (rowsAt b n fun a => decide (ordN o a < k)) r := by
  have lo : o.length = n := by rw [po.length_eq, List.length_range]
  have nd : o.Nodup := po.nodup_iff.mpr List.nodup_range
  rw [sp_take pr (bs.perm (second_perm (by rw [bs.len]; exact po))) hk]
  refine ⟨fun h => h.mono fun s hs => ?_, fun h => h.mono fun s hs => ?_⟩
  · obtain ⟨j, h1, h2⟩ := mem_take.mp hs
    have hj : j < o.length := by omega
    rw [second_at hj] at h2
    have mj : j ∈ o := po.mem_iff.mpr (List.mem_range.mpr (by omega))
    have li := List.idxOf_lt_length_of_mem mj
    have lb : o.idxOf j < b.length := by rw [bs.len, ← lo]; exact li
    refine (mem_rowsAt bs).mpr ⟨o.idxOf j, decide_eq_true ?_, ?_⟩
    · unfold ordN
      rw [List.getD_eq_getElem?_getD, List.getElem?_eq_getElem li, List.getElem_idxOf li]
      exact h1
    · rw [List.getElem?_eq_getElem lb, ← h2, List.getD_eq_getElem?_getD, List.getElem?_eq_getElem lb]
      rfl
  · obtain ⟨a, h1, h2⟩ := (mem_rowsAt bs).mp hs
    have h1 := of_decide_eq_true h1
    have la : a < o.length := by
      have := (List.getElem?_eq_some_iff.mp h2).1
      rw [bs.len] at this
      omega
    have eo : ordN o a = o[a] := by unfold ordN; rw [List.getD_eq_getElem?_getD, List.getElem?_eq_getElem la]; rfl
    rw [eo] at h1
    have hj : o[a] < o.length := by omega
    refine mem_take.mpr ⟨o[a], h1, ?_⟩
    rw [second_at hj, nd.idxOf_getElem a la, List.getD_eq_getElem?_getD, h2]
    rfl
theorem len_joi_bases {p n : Nat} (pr : Pr p) {b : Code} (bs : Bs p n b) {o : List Nat} (po : o.Perm (List.range n)) {i j : Nat} (hi : i ≤ n) (hj : j ≤ n) :
    (joi p (wholeM n (codesM p b) i) (wholeM n (codesM p (secondM b o)) j)).length = (List.range n).countP fun a => decide (a < i) || decide (ordN o a < j) :=
  len_joi_at pr (un_units (n := n) pr.two) bs ((flag_whole pr (flag_bs pr bs)).ech i hi).ok ((flag_whole pr (flag_bs pr (bs.perm (second_perm (by rw [bs.len]; exact po))))).ech j hj).ok (fun r => sp_first pr bs hi) fun r => sp_secnd pr bs po hj
theorem rk_far {p n : Nat} (pr : Pr p) {b : Code} (bs : Bs p n b) {o : List Nat} (po : o.Perm (List.range n)) {i j : Nat} (hi : i ≤ n) (hj : j ≤ n) :
    rkL p (wholeL n (turnN p n (codesM p b))) (wholeL n (turnN p n (codesM p (secondM b o)))) i j = far n o i j := by
  have p0 : 0 < p := Nat.lt_of_lt_of_le (by decide) pr.two
  have b2 := bs.perm (second_perm (base := b) (o := o) (by rw [bs.len]; exact po))
  have o1 := flag_bs pr bs
  have o2 := flag_bs pr b2
  have t1 := flag_turn pr o1
  have t2 := flag_turn pr o2
  have f1 := flag_whole pr o1
  have f2 := flag_whole pr o2
  unfold rkL
  rw [whole_getD t1 hi, whole_getD t2 hj]
  have eA := (flag_whole pr t1).ech i hi
  have eB := (flag_whole pr t2).ech j hj
  have eC := f1.ech (n - i) (by omega)
  have eD := f2.ech (n - j) (by omega)
  have eW := ech_joi pr eA.ok eB.ok
  have h1 := len_turn pr eW
  have h2 : (turnM p n (joi p (wholeM n (turnN p n (codesM p b)) i) (wholeM n (turnN p n (codesM p (secondM b o))) j))).length = (com p n (wholeM n (codesM p b) (n - i)) (wholeM n (codesM p (secondM b o)) (n - j))).length := by
    refine len_same pr.two (ech_turn pr eW) (ech_com pr eC.ok eD.ok) fun r => ?_
    rw [sp_turn pr eW, sp_com pr eC.ok eD.ok]
    have q1 : Orth p n (wholeM n (turnN p n (codesM p b)) i) r ↔ Sp p n (wholeM n (codesM p b) (n - i)) r := by
      rw [orth_iff p0 eA.ok (ech_turn pr eC).ok fun r => by rw [whole_turn pr o1 hi, sp_turn pr eC]]
      exact orth_turn pr eC
    have q2 : Orth p n (wholeM n (turnN p n (codesM p (secondM b o))) j) r ↔ Sp p n (wholeM n (codesM p (secondM b o)) (n - j)) r := by
      rw [orth_iff p0 eB.ok (ech_turn pr eD).ok fun r => by rw [whole_turn pr o2 hj, sp_turn pr eD]]
      exact orth_turn pr eD
    rw [← q1, ← q2]
    have jo : ∀ s, Sp p n (joi p (wholeM n (turnN p n (codesM p b)) i) (wholeM n (turnN p n (codesM p (secondM b o))) j)) s ↔ _ := fun s => sp_joi pr eA.ok eB.ok
    constructor
    · intro h
      refine ⟨⟨h.1, fun s hs => h.span eW.ok p0 ((jo s).mpr ⟨s, _, .mem p0 eA.ok hs, .zero, (plus_rep p0 (eA.ok s hs) 1).symm⟩)⟩, ⟨h.1, fun s hs => h.span eW.ok p0 ((jo s).mpr ⟨_, s, .zero, .mem p0 eB.ok hs, (rep_plus p0 (eB.ok s hs)).symm⟩)⟩⟩
    · rintro ⟨ha, hb⟩
      refine ⟨ha.1, fun s hs => ?_⟩
      obtain ⟨u, v, hu, hv, rfl⟩ := (jo s).mp (.mem p0 eW.ok hs)
      rw [dot_plus 1 r ((hu.ok p0 eA.ok).len.trans (hv.ok p0 eB.ok).len.symm), Int.one_mul, Int.add_emod, ha.span eA.ok p0 hu, hb.span eB.ok p0 hv]
      rfl
  have h3 := len_both pr eC eD
  rw [f1.len _ (by omega), f2.len _ (by omega), len_joi_bases pr bs po (by omega) (by omega)] at h3
  have h4 := far_or po (i := i) (j := j)
  omega
theorem first_from : ∀ (n v : Nat), v < n → ((List.range n).filter fun j => decide (v ≤ j))[0]? = some v
  | 0, _, h => absurd h (Nat.not_lt_zero _)
  | n + 1, v, h => by
    rw [List.range_succ, List.filter_append]
    by_cases q : v < n
    · have := first_from n v q
      rw [List.getElem?_append_left (List.getElem?_eq_some_iff.mp this).1]
      exact this
    · have e : v = n := by omega
      subst e
      have z : (List.range v).filter (fun j => decide (v ≤ j)) = [] := by
        rw [List.filter_eq_nil_iff]
        intro j hj
        have := List.mem_range.mp hj
        simp
        omega
      rw [z]
      simp
theorem ord_turn {p n : Nat} (pr : Pr p) {b : Code} (bs : Bs p n b) {o : List Nat} (po : o.Perm (List.range n)) : OrdOf p n (wholeL n (turnN p n (codesM p b))) (wholeL n (turnN p n (codesM p (secondM b o)))) (turnO o) := by
  have lo : o.length = n := by rw [po.length_eq, List.length_range]
  refine ⟨by rw [len_turnO, lo], fun i hi => ?_⟩
  rw [turnO_at (by omega), lo, ← first_from n (n - 1 - ordN o (n - 1 - i)) (by omega)]
  congr 1
  refine List.filter_congr fun j hj => ?_
  have hj := List.mem_range.mp hj
  rw [rk_far pr bs po (by omega) (by omega), rk_far pr bs po (by omega) (by omega), far_step po hi]
  have := ord_lt po (show n - 1 - i < n by omega)
  refine decide_eq_decide.mpr ?_
  split <;> omega
end Wk
end
section
set_option Elab.async false
set_option linter.all false
set_option maxRecDepth 100000
set_option maxHeartbeats 4000000
set_option autoImplicit false
namespace Wk
open PySem L2 Ly Mx
/-! ### partial nests -/
theorem enc_row1 : Enc rowD 2 := enc_tup enc_int
theorem enc_code1 : Enc codeD 3 := enc_tup enc_row1
def prevM (cs : List Code) (i : Nat) : Code := if i = 0 then [] else cs.getD (i - 1) []
theorem prev_0 {cs : List Code} : prevM cs 0 = [] := if_pos rfl
theorem prev_s {cs : List Code} {i : Nat} {c : Code} (h : cs[i]? = some c) : prevM cs (i + 1) = c := by
  unfold prevM
  rw [if_neg (Nat.succ_ne_zero i), Nat.add_sub_cancel, List.getD_eq_getElem?_getD, h]
  rfl
/-- the codes of a partial nest -/
structure PartOk (p n : Nat) (cs : List Code) : Prop where
  code : ∀ (k : Nat) (c : Code), cs[k]? = some c → CodeOk p n c ∧ (prevM cs k).length < c.length ∧ c.length < n
  within : ∀ (k : Nat) (c : Code), cs[k]? = some c → (prevM cs k).all (fun r => inM p n c r) = true
theorem PartOk.big {p n : Nat} {cs : List Code} (o : PartOk p n cs) : ∀ (k : Nat) (c : Code), cs[k]? = some c → k + 1 ≤ c.length
  | 0, c, h => by
    have := (o.code 0 c h).2.1
    omega
  | k + 1, c, h => by
    have hl : k < cs.length := by
      have := (List.getElem?_eq_some_iff.mp h).1
      omega
    have hk : cs[k]? = some cs[k] := List.getElem?_eq_getElem hl
    have h1 := o.big k _ hk
    have h2 := (o.code (k + 1) c h).2.1
    rw [prev_s hk] at h2
    omega
theorem PartOk.short {p n : Nat} {cs : List Code} (o : PartOk p n cs) : cs.length ≤ n - 1 := by
  by_cases q : cs.length = 0
  · omega
  · have hk : cs[cs.length - 1]? = some cs[cs.length - 1] := List.getElem?_eq_getElem (by omega)
    have h1 := o.big _ _ hk
    have h2 := (o.code _ _ hk).2.2
    omega
theorem PartOk.prev {p n : Nat} {cs : List Code} (o : PartOk p n cs) {i : Nat} (hi : i ≤ cs.length) : Ech p n (prevM cs i) ∧ (prevM cs i).length ≤ n := by
  by_cases q : i = 0
  · rw [q, prev_0]
    exact ⟨⟨fun _ h => (nomatch h), fun _ h => (nomatch h), .nil⟩, Nat.zero_le _⟩
  · have hk : cs[i - 1]? = some cs[i - 1] := List.getElem?_eq_getElem (by omega)
    have e := prev_s hk
    rw [show i - 1 + 1 = i by omega] at e
    rw [e]
    exact ⟨(o.code _ _ hk).1.ech, Nat.le_of_lt (o.code _ _ hk).2.2⟩
def partD (G : Ads) (p n : Nat) (cs : List Code) : Dt := .ins G.Part [("own_ground", gr G p n), ("own_codes", .tup (cs.map codeD))]
instance (G : Ads) (p n : Nat) (cs : List Code) : Imm (partD G p n cs) := by unfold partD; exact inferInstance
def sp_first_wrong_parts (K : PySem.W.Frag) (G : Ads) : Sp := spP K (α := (Nat × Nat) × Bool × List Code) (fun a => [gr G a.1.1 a.1.2, if a.2.1 then .lst (a.2.2.map codeD) else .tup (a.2.2.map codeD)]) (fun a => Gd a.1.1 a.1.2 ∧ PartOk a.1.1 a.1.2 a.2.2) (fun _ d => .non = d)
def sp_Part__init_ (K : PySem.W.Frag) (G : Ads) : Sp := spI K G.Part (α := (Nat × Nat) × Bool × List Code) (fun a => [gr G a.1.1 a.1.2, if a.2.1 then .lst (a.2.2.map codeD) else .tup (a.2.2.map codeD)]) (fun a => Gd a.1.1 a.1.2 ∧ PartOk a.1.1 a.1.2 a.2.2)
  (fun a => [("own_ground", gr G a.1.1 a.1.2), ("own_codes", .tup (a.2.2.map codeD))])
def sp_Part_ground (K : PySem.W.Frag) (G : Ads) : Sp := spP K (α := (Nat × Nat) × List Code) (fun a => [partD G a.1.1 a.1.2 a.2]) (fun _ => True) (fun a d => gr G a.1.1 a.1.2 = d)
def sp_Part_codes (K : PySem.W.Frag) (G : Ads) : Sp := spP K (α := (Nat × Nat) × List Code) (fun a => [partD G a.1.1 a.1.2 a.2]) (fun _ => True) (fun a d => .lst (a.2.map codeD) = d)
def sp_Part_ranks (K : PySem.W.Frag) (G : Ads) : Sp := spP K (α := (Nat × Nat) × List Code) (fun a => [partD G a.1.1 a.1.2 a.2]) (fun a => a.2.length ≤ 1000) (fun a d => plD (a.2.map List.length) = d)
section
variable {P : Program} {w : World} {K : PySem.W.Frag} {mg : Str → Option Value} {base : Heap} {G : Ads} {f : Addr} {fd : FuncData}
theorem sc_first_wrong_parts : FnScope ["ground", "codes", "before", "k", "code", "path"] ["ground", "codes"] (defScope (top 40)) := ⟨rfl, rfl, rfl, by decide +kernel, rfl, by decide +kernel, by decide +kernel⟩
theorem ok_first_wrong_parts (F : Df K "first_wrong" "first_wrong" (top 40) f fd) (T : Txt K mg G) (c_code_fault : Cl P w K mg base 4 "code_fault" (sp_code_fault K G)) (c_is_within : Cl P w K mg base 6 "is_within" (sp_is_within K G)) (c_Ground_n : Me P w K mg base 1 G.Ground "n" (sp_Ground_n K G)) : FnOk P w K mg base CX0 7 f fd ["ground", "codes"] (sp_first_wrong_parts K G) := by
  have sc := sc_first_wrong_parts
  refine F.ok sc (fun vs H Q E h => spP_len h fun _ => rfl) (fun cdv A outer s H vs Q E hr h => ?_)
  refine ⟨_, PSs.nox (pss_cons (ps_if (pt_not (pt_val (pe_callB (x_isiT (K := K)) (by rfl) T.f_isinstance (by decide +kernel) (pa_cons (pv 1) (pa_cons (pe_tup (pa_cons (pe_bltn (v := .ty "list") (by rfl) T.f_list (by decide +kernel) rfl) (pa_cons (pe_bltn (v := .ty "tuple") (by rfl) T.f_tuple (by decide +kernel) rfl) pa_nil))) pa_nil))))) (pss_cons (ps_ret (pe_tup pa_nil)) pss_nil) pss_nil) (pss_cons (ps_set (i := 2) sc.nd rfl (Or.inl rfl) (pe_tup pa_nil)) (pss_cons (ps_for PassesOwn.never rfl (x_enum (K := K) (by rfl) T.f_enumerate (pa_cons (pv 1) pa_nil)) (x_tup (K := K) (n := 2) rfl (pgs_cons (pg_name (i := 3) sc.nd rfl (Or.inl rfl)) (pgs_cons (pg_name (i := 4) sc.nd rfl (Or.inl rfl)) pgs_nil))) (pss_cons (ps_set (i := 5) sc.nd rfl (Or.inl rfl) (pe_cl c_code_fault hr (by decide) (by rfl) (pa_cons (pv 0) (pa_cons (pv 4) pa_nil)))) (pss_cons (ps_if (pt_cmpR op_notN (pv 5) pe_non (nomark _)) (pss_cons (ps_ret (pe_tup (pa_cons (pv 3) (x_star (K := K) (pv 5) pa_nil)))) pss_nil) pss_nil) (pss_cons (ps_if (PW.pt (pw_or (pt_cmpR op_le (pe_callB (x_len (K := K)) (by rfl) T.f_len PySem.boot_len (pa_cons (pv 4) pa_nil)) (pe_callB (x_len (K := K)) (by rfl) T.f_len PySem.boot_len (pa_cons (pv 2) pa_nil)) (nomark _)) (pw_or (pt_cmpR (x_eq (K := K) hr.units) (pe_callB (x_len (K := K)) (by rfl) T.f_len PySem.boot_len (pa_cons (pv 4) pa_nil)) (pe_me0 c_Ground_n hr (by decide) (pv 0)) (nomark _)) (pw_or1 (pt_not (pt_val (pe_cl c_is_within hr (by decide) (by rfl) (pa_cons (pv 0) (pa_cons (pv 2) (pa_cons (pv 4) pa_nil)))))))))) (pss_cons (ps_ret (pe_tup (pa_cons (pv 3) pa_nil))) pss_nil) pss_nil) (pss_cons (ps_set (i := 2) sc.nd rfl (Or.inl rfl) (pv 4)) pss_nil))))) (pss_cons (ps_ret pe_non) pss_nil)))), ?_⟩
  obtain ⟨⟨⟨p, n⟩, b, cs⟩, ⟨g, o⟩, hargs, k⟩ := h
  have g : Gd p n := g
  have o : PartOk p n cs := o
  have nle := g.nle
  generalize hR : (if b then Dt.lst (cs.map codeD) else .tup (cs.map codeD)) = R
  have hq : IsSq R (cs.map codeD) := hR ▸ isq_b b _
  have hc : ∃ c, R.cls = some c ∧ (c = "list" ∨ c = "tuple") := by
    rw [← hR]
    cases b
    · exact ⟨_, rfl, .inr rfl⟩
    · exact ⟨_, rfl, .inl rfl⟩
  obtain ⟨cn, hcn, hcc⟩ := hc
  have st : At K z0 H [] [some (gr G p n), some R, none, none, none, none] (L2.start ["ground", "codes", "before", "k", "code", "path"] vs) H := at_beg hargs (by rw [← hR]; rfl) rfl
  have ty : EVT K z0 H [] [some (gr G p n), some R, none, none, none, none] (tTest (tCB (rIsiT K) (tCons (tVar 1) (tCons (tTup (tCons (tC (.ty "list")) (tCons (tC (.ty "tuple")) tNil))) tNil)))) (Eq true) := by
    refine EVT.eq (et_test (W := wF) (ev_isiT (c := cn) (ns := ["list", "tuple"]) (ev_varW rfl) hcn (ea_cons ev_ty (ea_cons ev_ty ea_nil)) (by decide) ?_)) ?_
    · rcases hcc with q | q <;> subst q <;> decide +kernel
    · rcases hcc with q | q <;> subst q <;> decide +kernel
  refine q_if st (EVT.eq (c := false) (et_not (b := true) ty) rfl) (fun z => nomatch z) fun _ H1 s1 => ?_
  refine q_next (q_asg s1 (ev_tup ea_nil) fun d pd σ2 H2 s2 => ?_)
  subst pd
  refine q_for (β := Unit) (I := fun _ i _ => True) (Lf := fun _ _ _ => []) (Γf := fun _ i _ => [some (gr G p n), some R, some (codeD (prevM cs i)), none, none, none]) (is := [3, 4]) (es := fun d => match d with | .tup [a, b] => [a, b] | _ => [.non, .non]) s2
    (it_enum (PL := Eq (cs.map codeD)) fun σ H a Q q => ea_cons (ev_var rfl) ea_nil σ H a Q fun ds vs H' pd => q ds vs H' ⟨_, _, pd.symm, hq, rfl⟩) ?_ (fun _ _ _ => rfl) (fun _ _ => ⟨(), trivial, rfl, .keep (.keep (.keep (.keep (.keep (.keep .nil)))))⟩) ?_ ?_
  · rintro items ⟨ds, rfl, rfl⟩ d hd
    obtain ⟨i, hi, rfl⟩ := List.mem_map.mp hd
    exact gt_tup2
  · rintro items ⟨ds, rfl, rfl⟩ i d _ hd _ H3 g3 σ4 H4 s4 N kN
    have hlt : i < cs.length := by
      have := (List.getElem?_eq_some_iff.mp hd).1
      rw [enumD_len, List.length_map] at this
      exact this
    have hr : cs[i]? = some cs[i] := List.getElem?_eq_getElem hlt
    rw [enumD_get (d := codeD cs[i]) (by rw [List.getElem?_map, hr]; rfl)] at hd
    cases hd
    obtain ⟨co, c1, c2⟩ := o.code i _ hr
    refine q_asg s4 (ev_code_fault (ea_cons (ev_varW rfl) (ea_cons (ev_varW rfl) ea_nil)) g co) fun d pd σ5 H5 s5 => ?_
    subst pd
    refine q_if s5 (EVT.eq (c := false) (et_B (W := wF) (ev_op (ev_varW rfl) ev_non rr_notN)) rfl) (fun z => nomatch z) fun _ H6 s6 => ?_
    obtain ⟨pe, pl⟩ := o.prev (i := i) (by omega)
    refine q_next (q_if s6 (EVT.eq (c := false) (et_or (b := false) (c := false) (EVT.eq (et_B (W := wF) (ev_op (ev_cb (ea_cons (ev_varW rfl) ea_nil) (rc_len (.tup _))) (ev_cb (ea_cons (ev_varW rfl) ea_nil) (rc_len (.tup _))) rr_le)) ?_) fun _ => et_or (b := false) (c := false) (EVT.eq (et_B (W := wF) (ev_op (ev_cb (ea_cons (ev_varW rfl) ea_nil) (rc_len (.tup _))) (ev_gn (ev_varW rfl)) rr_eqI)) ?_) fun _ => EVT.eq (et_not (b := true) (EVT.eq (et_test (W := wF) (ev_is_within (ea_cons (ev_varW rfl) (ea_cons (ev_varW rfl) (ea_cons (ev_varW rfl) ea_nil))) g ⟨by omega, pe.ok⟩ (by have := co.len; omega) co.ech)) (o.within i _ hr))) rfl) rfl) (fun z => nomatch z) fun _ H7 s7 => ?_)
    · rw [List.length_map, List.length_map]
      exact decide_eq_false (by omega)
    · rw [List.length_map]
      exact decide_eq_false (by omega)
    refine q_next (q_asg s7 (ev_var rfl) fun d pd σ8 H8 s8 => ?_)
    subst pd
    refine q_next (kN () σ8 H8 trivial ?_)
    rw [prev_s hr]
    exact s8.less (.keep (.keep (.keep (.drop (.drop (.drop .nil))))))
  · rintro items ⟨ds, rfl, rfl⟩ _ _ σ3 H3 s3
    exact q_ret1 (P := Eq .non) s3 ev_non k
end
section
variable {P : Program} {w : World} {K : PySem.W.Frag} {mg : Str → Option Value} {base : Heap} {G : Ads} {f : Addr} {fd : FuncData}
variable {Z : Zn} {H0 : Hp} {L : Own} {Γ : Gam} {W : Hp → Addr → Prop} {E : XK} {t : TA} {te : TE} {p n m : Nat} {d : Dt} {cs : List Code} {i : Nat}
theorem ev_first_wrongP [Wd K Z L W] (h : EVA K Z H0 L Γ (wW Z) t (Eq [gr G p n, d])) (hd : IsSq d (cs.map codeD)) (g : Gd p n) (o : PartOk p n cs) : EV K Z H0 L Γ W (tCall (sp_first_wrong_parts K G) [] E t) (Eq .non) := by
  cases hd with
  | lst => exact ev_call (x := ((p, n), true, cs)) h ⟨g, o⟩
  | tup => exact ev_call (x := ((p, n), false, cs)) h ⟨g, o⟩
theorem ev_part [Wd K Z L W] (h : EVA K Z H0 L Γ (wW Z) t (Eq [gr G p n, d])) (hd : IsSq d (cs.map codeD)) (g : Gd p n) (o : PartOk p n cs) : EV K Z H0 L Γ W (tMake G.Part (sp_Part__init_ K G) [] E t) (Eq (partD G p n cs)) := by
  cases hd with
  | lst => exact ev_make (x := (((p, n), true, cs) : (Nat × Nat) × Bool × List Code)) h ⟨g, o⟩
  | tup => exact ev_make (x := (((p, n), false, cs) : (Nat × Nat) × Bool × List Code)) h ⟨g, o⟩
theorem ev_fogP [Wd K Z L W] (T : Txt K mg G) (h : EV K Z H0 L Γ (wW Z) te (Eq (partD G p n cs))) : EV K Z H0 L Γ W (tFld K te "own_ground") (Eq (gr G p n)) := ev_fld T.k_Part T.n_Part_own_ground h rfl
theorem ev_focP [Wd K Z L W] (T : Txt K mg G) (h : EV K Z H0 L Γ (wW Z) te (Eq (partD G p n cs))) : EV K Z H0 L Γ W (tFld K te "own_codes") (Eq (.tup (cs.map codeD))) := ev_fld T.k_Part T.n_Part_own_codes h rfl
theorem ev_pground [Wd K Z L W] (h : EV K Z H0 L Γ (wW Z) te (Eq (partD G p n cs))) : EV K Z H0 L Γ W (tMeth G.Part "ground" (sp_Part_ground K G) [] E te tNil) (Eq (gr G p n)) := ev_meth (((p, n), cs) : (Nat × Nat) × List Code) h ea_nil rfl trivial (by rfl)
theorem ev_pcodes [Wd K Z L W] (h : EV K Z H0 L Γ (wW Z) te (Eq (partD G p n cs))) : EV K Z H0 L Γ W (tMeth G.Part "codes" (sp_Part_codes K G) [] E te tNil) (Eq (.lst (cs.map codeD))) := ev_meth (((p, n), cs) : (Nat × Nat) × List Code) h ea_nil rfl trivial (by rfl)
theorem ev_pranks [Wd K Z L W] (h : EV K Z H0 L Γ (wW Z) te (Eq (partD G p n cs))) (hl : cs.length ≤ 1000) : EV K Z H0 L Γ W (tMeth G.Part "ranks" (sp_Part_ranks K G) [] E te tNil) (Eq (plD (cs.map List.length))) := ev_meth (((p, n), cs) : (Nat × Nat) × List Code) h ea_nil rfl hl (by rfl)
end
section
variable {P : Program} {w : World} {K : PySem.W.Frag} {mg : Str → Option Value} {base : Heap} {G : Ads} {f : Addr} {fd : FuncData}
theorem sc_Part__init_ : FnScope ["self", "ground", "codes", "path"] ["self", "ground", "codes"] (defScope (inClass (top 42) 0)) := ⟨rfl, rfl, rfl, by decide +kernel, rfl, by decide +kernel, by decide +kernel⟩
theorem ok_Part__init_ (F : Df K "__init__" "Part.__init__" (inClass (top 42) 0) f fd) (T : Txt K mg G) (c_first_wrong_parts : Cl P w K mg base 7 "first_wrong_parts" (sp_first_wrong_parts K G)) : FnOk P w K mg base CX0 8 f fd ["self", "ground", "codes"] (sp_Part__init_ K G) := by
  have sc := sc_Part__init_
  refine F.ok sc (fun vs H Q E h => spI_len h fun _ => rfl) (fun cdv A outer s H vs Q E hr h => ?_)
  refine ⟨_, PSs.nox (pss_cons (ps_set (i := 3) sc.nd rfl (Or.inl rfl) (pe_cl c_first_wrong_parts hr (by decide) (by rfl) (pa_cons (pv 1) (pa_cons (pv 2) pa_nil)))) (pss_cons (ps_if (pt_cmpR op_notN (pv 3) pe_non (nomark _)) pss_never pss_nil) (pss_cons (x_sets (K := K) (pv 0) (pv 1)) (pss_cons (x_sets (K := K) (pv 0) (pe_callTy (x_tuple (K := K)) (by rfl) T.f_tuple (by decide +kernel) (pa_cons (pv 2) pa_nil))) pss_nil)))), ?_⟩
  obtain ⟨⟨⟨p, n⟩, b, cs⟩, x, dx, ws, rfl, hx, ⟨g, o⟩, ⟨Hb, hb1, hb2, hargs⟩, k⟩ := h
  have g : Gd p n := g
  have o : PartOk p n cs := o
  have hcs : cs.length ≤ 1000 := by have := o.short; have := g.nle; omega
  have hargs : Ly.IsL K (fun x => False) Hb [gr G p n, if b then .lst (cs.map codeD) else .tup (cs.map codeD)] ws := hargs
  generalize hR : (if b then Dt.lst (cs.map codeD) else .tup (cs.map codeD)) = R at hargs
  have hq : IsSq R (cs.map codeD) := hR ▸ isq_b b _
  have st : At K z0 H [] [some (.raw (.ref x)), some (gr G p n), some R, none] (L2.start ["self", "ground", "codes", "path"] (V.ref x :: ws)) H := at_beg (.cons (.raw _) (hargs.mono (Gm.ofEx hb2))) rfl rfl
  refine q_asg st (ev_first_wrongP (ea_cons (ev_varW rfl) (ea_cons (ev_varW rfl) ea_nil)) hq g o) fun d pd σ1 H1 s1 => ?_
  subst pd
  refine q_if s1 (EVT.eq (c := false) (et_B (W := wF) (ev_op (ev_varW rfl) ev_non rr_notN)) rfl) (fun z => nomatch z) fun _ H2 s2 => ?_
  have ex : Ex H H2 := s2.ex0 fun _ q => nomatch q
  refine q_next (q_setI s2 (ex x _ hx) rfl T.k_Part T.n_Part_own_ground rfl (ev_var rfl).imm fun d v H3 pd e3 i3 => ?_)
  subst pd
  have oR : ∀ ns, Off ns R := fun ns => by
    cases hq <;> exact inferInstance
  have hx3 : H3 x = some (.ins G.Part dx []) := e3 x _ (ex x _ hx)
  obtain ⟨g23, j23⟩ := s2.ex e3
  have s3 := (s2.step g23 j23).off (o := .ins G.Part dx (putF "own_ground" v [])) hx3 (ns := []) rfl (by
    have := off_gr G p n (ns := []) (by decide)
    have := oR []
    show OffG [] [some (.raw (.ref x)), some (gr G p n), some R, some .non]
    exact inferInstance)
  refine q_setI s3 upd_same rfl T.k_Part T.n_Part_own_codes rfl (ev_cb (ea_cons (ev_varW (d := R) rfl) ea_nil) (rc_tuple hq)) fun d v2 H5 pd e5 i5 => ?_
  subst pd
  have j4 := (off_gr G p n (ns := []) (by decide)).any K _ H3 x G.Part dx [] (.ins G.Part dx (putF "own_ground" v [])) v hx3 rfl i3
  have h5 : H5 x = some (.ins G.Part dx (putF "own_ground" v [])) := e5 x _ upd_same
  have j6 := (off_gr G p n (ns := ["own_ground"]) (by decide)).any K _ H5 x G.Part dx _ (.ins G.Part dx (putF "own_codes" v2 (putF "own_ground" v []))) v h5 rfl (j4.mono (Gm.ofEx e5))
  have k6 := (inferInstance : Off ["own_ground"] (.tup (cs.map codeD))).any K _ H5 x G.Part dx _ (.ins G.Part dx (putF "own_codes" v2 (putF "own_ground" v []))) v2 h5 rfl i5
  refine k _ _ (fun b o hb e => ?_) upd_same (.cons ((inferInstance : Imm (gr G p n)).any _ _ _ _ _ j6) (.cons ((inferInstance : Imm (.tup (cs.map codeD))).any _ _ _ _ _ k6) .nil))
  rw [upd_ne hb]
  refine e5 b o ?_
  rw [upd_ne hb]
  exact e3 b o (ex b o e)
theorem sc_Part_ground : FnScope ["self"] ["self"] (defScope (inClass (top 42) 2)) := ⟨rfl, rfl, rfl, by decide +kernel, rfl, by decide +kernel, by decide +kernel⟩
theorem ok_Part_ground (F : Df K "ground" "Part.ground" (inClass (top 42) 2) f fd) (T : Txt K mg G)  : FnOk P w K mg base CX0 1 f fd ["self"] (sp_Part_ground K G) := by
  have sc := sc_Part_ground
  refine F.ok sc (fun vs H Q E h => spP_len h fun _ => rfl) (fun cdv A outer s H vs Q E hr h => ?_)
  refine ⟨_, PSs.nox (pss_cons (ps_ret (x_fld (K := K) (pv 0))) pss_nil), ?_⟩
  obtain ⟨⟨⟨p, n⟩, cs⟩, pre, hargs, k⟩ := h
  have st : At K z0 H [] [some (partD G p n cs)] (L2.start ["self"] vs) H := at_beg hargs rfl rfl
  exact q_ret1 st (ev_fogP T (ev_varW rfl)) k
theorem sc_Part_codes : FnScope ["self"] ["self"] (defScope (inClass (top 42) 3)) := ⟨rfl, rfl, rfl, by decide +kernel, rfl, by decide +kernel, by decide +kernel⟩
theorem ok_Part_codes (F : Df K "codes" "Part.codes" (inClass (top 42) 3) f fd) (T : Txt K mg G)  : FnOk P w K mg base CX0 1 f fd ["self"] (sp_Part_codes K G) := by
  have sc := sc_Part_codes
  refine F.ok sc (fun vs H Q E h => spP_len h fun _ => rfl) (fun cdv A outer s H vs Q E hr h => ?_)
  refine ⟨_, PSs.nox (pss_cons (ps_ret (pe_callTy (x_list (K := K)) (by rfl) T.f_list (by decide +kernel) (pa_cons (x_fld (K := K) (pv 0)) pa_nil))) pss_nil), ?_⟩
  obtain ⟨⟨⟨p, n⟩, cs⟩, pre, hargs, k⟩ := h
  have st : At K z0 H [] [some (partD G p n cs)] (L2.start ["self"] vs) H := at_beg hargs rfl rfl
  exact q_ret1 st (ev_cb (ea_cons (ev_focP T (ev_varW rfl)) ea_nil) (rc_list (.tup _))) k
theorem sc_Part_ranks : FnScope ["self", "code"] ["self"] (defScope (inClass (top 42) 4)) := ⟨rfl, rfl, rfl, by decide +kernel, rfl, by decide +kernel, by decide +kernel⟩
theorem ok_Part_ranks (F : Df K "ranks" "Part.ranks" (inClass (top 42) 4) f fd) (T : Txt K mg G)  : FnOk P w K mg base CX0 1 f fd ["self"] (sp_Part_ranks K G) := by
  have sc := sc_Part_ranks
  refine F.ok sc (fun vs H Q E h => spP_len h fun _ => rfl) (fun cdv A outer s H vs Q E hr h => ?_)
  refine ⟨_, PSs.nox (pss_cons (ps_ret (pe_callTy (x_tuple (K := K)) (by rfl) T.f_tuple (by decide +kernel) (pa_cons (pe_lc (own := [("code", 1)]) rfl sc.nd (x_sq (K := K) (x_fld (K := K) (pv 0))) (blkOk_by (by kernel_rfl)) (fun _ _ _ _ _ => (pg_name (i := 1) sc.nd rfl (by first | exact Or.inl rfl | exact Or.inr rfl))) (fun _ _ _ _ _ => pts_nil) (fun _ _ _ _ _ => (pe_callB (x_len (K := K)) (by rfl) T.f_len PySem.boot_len (pa_cons (pv 1) pa_nil)))) pa_nil))) pss_nil), ?_⟩
  obtain ⟨⟨⟨p, n⟩, cs⟩, hl, hargs, k⟩ := h
  have hl : cs.length ≤ 1000 := hl
  have st : At K z0 H [] [some (partD G p n cs), none] (L2.start ["self", "code"] vs) H := at_beg hargs rfl rfl
  refine q_ret1 st (EV.eq (ev_cb (ea_cons (ev_lcM (xs := cs) (h := codeD) (is := [1]) (es := fun c => [codeD c]) (fn := fun c => .int (c.length : Nat)) (it_tup (N := Mt z0 []) (ev_focP T (ev_varW rfl))) (.inl fun _ => Iff.rfl) (by omega) (fun _ _ => gt_name) (by decide) fun x hx => ?_) ea_nil) (rc_tuple (.lst _))) ?_) k
  · exact EV.eq (ev_cb (ea_cons (ev_varW rfl) ea_nil) (rc_len (.tup _))) (by rw [List.length_map])
  · show Dt.tup _ = Dt.tup _
    rw [List.map_map]
    rfl
end
end Wk
end
section
set_option Elab.async false
set_option linter.all false
set_option maxRecDepth 100000
set_option maxHeartbeats 4000000
set_option autoImplicit false
namespace Wk
open PySem L2 Ly Mx
theorem zip_dropLast {α : Type} : ∀ l : List α, l.dropLast.zip l.tail = l.zip l.tail
  | [] => rfl
  | [_] => rfl
  | a :: b :: l => by
    show (a :: (b :: l).dropLast).zip (b :: l) = (a :: b :: l).zip (b :: l)
    rw [List.zip_cons_cons, List.zip_cons_cons]
    congr 1
    exact zip_dropLast (b :: l)
theorem cut_last {α : Type} (xs : List α) : cutD xs none (some (-1)) = xs.dropLast := by
  unfold cutD
  have e1 : HT.sIx xs.length xs.length (some (-1)) = xs.length - 1 := by
    unfold HT.sIx
    simp
    omega
  have e2 : HT.sIx xs.length 0 none = 0 := rfl
  rw [e1, e2, List.drop_zero, Nat.sub_zero, List.dropLast_eq_take]
theorem cut_tail {α : Type} (xs : List α) : cutD xs (some (1 : Int)) none = xs.tail := by
  cases xs with
  | nil => rfl
  | cons a l =>
    have := cut_from (xs := a :: l) (n := 1) (by simp)
    exact this
theorem zip_snd {α : Type} (l : List α) : (l.zip l.tail).map (fun q => q.2) = l.tail := by
  have := List.map_snd_zip (l₁ := l) (l₂ := l.tail) (by rw [List.length_tail]; omega)
  exact this
theorem zip_at {α : Type} {l : List α} {q : α × α} (h : q ∈ l.zip l.tail) : ∃ i, l[i]? = some q.1 ∧ l[i + 1]? = some q.2 := by
  obtain ⟨i, hi⟩ := List.mem_iff_getElem?.mp h
  rw [List.getElem?_zip_eq_some] at hi
  refine ⟨i, hi.1, ?_⟩
  have := hi.2
  rw [List.getElem?_tail] at this
  exact this
theorem top_at {n i : Nat} {cs : List Code} (hi : i ≤ cs.length) : (wholeL n cs)[i]? = some (prevM cs i) := by
  unfold wholeL prevM
  cases i with
  | zero => rfl
  | succ i =>
    rw [if_neg (Nat.succ_ne_zero i), Nat.add_sub_cancel]
    show ((([] : Code) :: cs) ++ _)[i + 1]? = _
    rw [List.getElem?_append_left (by rw [List.length_cons]; omega), List.getElem?_cons_succ, List.getD_eq_getElem?_getD, List.getElem?_eq_getElem (by omega)]
    rfl
theorem len_wholeL (n : Nat) (cs : List Code) : (wholeL n cs).length = cs.length + 1 + if 0 < n then 1 else 0 := by
  unfold wholeL
  rw [List.length_append, List.length_cons]
  split <;> rfl
theorem top_last {n : Nat} {cs : List Code} (h : 0 < n) : (wholeL n cs)[cs.length + 1]? = some (unitsM n) := by
  unfold wholeL
  rw [if_pos h, List.getElem?_append_right (by rw [List.length_cons]; omega), List.length_cons, Nat.sub_self]
  rfl
theorem inM_sp {p n : Nat} {c : Code} {r : List Int} (hp : 0 < p) (e : Ech p n c) (o : Mx.Ok p n r) (h : inM p n c r = true) : Sp p n c r := in_sp hp e o (of_decide_eq_true h)
theorem top_ok {p n : Nat} {cs : List Code} (pr : Pr p) (o : PartOk p n cs) {c : Code} (h : c ∈ wholeL n cs) : Ech p n c ∧ c.length ≤ n := by
  unfold wholeL at h
  rcases List.mem_append.mp h with h | h
  · rcases List.mem_cons.mp h with rfl | h
    · exact ⟨⟨fun _ h => (nomatch h), fun _ h => (nomatch h), .nil⟩, Nat.zero_le _⟩
    · obtain ⟨i, hi⟩ := List.mem_iff_getElem?.mp h
      exact ⟨(o.code i c hi).1.ech, Nat.le_of_lt (o.code i c hi).2.2⟩
  · by_cases q : 0 < n
    · rw [if_pos q] at h
      rw [List.mem_singleton.mp h]
      exact ⟨(un_units pr.two).ech, Nat.le_of_eq (un_units pr.two).len⟩
    · rw [if_neg q] at h
      cases h
/-- a step of a partial nest -/
theorem step_ok {p n : Nat} {cs : List Code} (pr : Pr p) (o : PartOk p n cs) {q : Code × Code} (h : q ∈ (wholeL n cs).zip (wholeL n cs).tail) : q.1.length < q.2.length ∧ (∀ r, Sp p n q.1 r → Sp p n q.2 r) ∧ (Ech p n q.1 ∧ q.1.length ≤ n) ∧ (Ech p n q.2 ∧ q.2.length ≤ n) := by
  have hp : 0 < p := Nat.lt_of_lt_of_le (by decide) pr.two
  obtain ⟨i, h1, h2⟩ := zip_at h
  obtain ⟨a, b⟩ := q
  have h1 : (wholeL n cs)[i]? = some a := h1
  have h2 : (wholeL n cs)[i + 1]? = some b := h2
  have ea := top_ok pr o (List.mem_of_getElem? h1)
  have eb := top_ok pr o (List.mem_of_getElem? h2)
  suffices a.length < b.length ∧ ∀ r ∈ a, Sp p n b r from ⟨this.1, fun r hr => hr.sub hp eb.1.ok this.2, ea, eb⟩
  have hl : i + 1 < (wholeL n cs).length := (List.getElem?_eq_some_iff.mp h2).1
  rw [len_wholeL] at hl
  by_cases q : i < cs.length
  · rw [top_at (Nat.le_of_lt q)] at h1
    cases h1
    rw [top_at q] at h2
    have hk : cs[i]? = some cs[i] := List.getElem?_eq_getElem q
    rw [prev_s hk] at h2
    cases h2
    refine ⟨(o.code i _ hk).2.1, fun r hr => inM_sp hp eb.1 (ea.1.ok r hr) (List.all_eq_true.mp (o.within i _ hk) r hr)⟩
  · have hn : 0 < n := by
      by_cases z : 0 < n
      · exact z
      · rw [if_neg z] at hl
        omega
    rw [if_pos hn] at hl
    have hi : i = cs.length := by omega
    subst hi
    rw [top_at (Nat.le_refl _)] at h1
    cases h1
    rw [top_last hn] at h2
    cases h2
    have hu := un_units (p := p) (n := n) pr.two
    refine ⟨?_, fun r hr => (hu.bs pr.two).all r (ea.1.ok r hr)⟩
    show (prevM cs cs.length).length < (unitsM n).length
    rw [hu.len]
    by_cases z : cs.length = 0
    · rw [z, prev_0]
      exact hn
    · have hk : cs[cs.length - 1]? = some cs[cs.length - 1] := List.getElem?_eq_getElem (by omega)
      have e := prev_s hk
      rw [show cs.length - 1 + 1 = cs.length by omega] at e
      rw [e]
      exact (o.code _ _ hk).2.2
theorem len_tops {p n : Nat} {cs : List Code} (o : PartOk p n cs) : (wholeL n cs).length ≤ n + 1 := by
  have := o.short
  rw [len_wholeL]
  split <;> omega
def blocksM (n : Nat) (cs : List Code) : List Nat := ((wholeL n cs).zip (wholeL n cs).tail).map fun q => q.2.length - q.1.length
def sp_Part_blocks (K : PySem.W.Frag) (G : Ads) : Sp := spP K (α := (Nat × Nat) × List Code) (fun a => [partD G a.1.1 a.1.2 a.2]) (fun a => Gd a.1.1 a.1.2 ∧ PartOk a.1.1 a.1.2 a.2) (fun a d => plD (blocksM a.1.2 a.2) = d)
def stepD (q : Code × Code) : Dt := .tup [codeD q.1, codeD q.2]
def sp_steps_of (K : PySem.W.Frag) (G : Ads) : Sp := spP K (α := (Nat × Nat) × List Code) (fun a => [partD G a.1.1 a.1.2 a.2]) (fun a => Gd a.1.1 a.1.2 ∧ PartOk a.1.1 a.1.2 a.2) (fun a d => .lst (((wholeL a.1.2 a.2).zip (wholeL a.1.2 a.2).tail).map stepD) = d)
def sp_tops_of (K : PySem.W.Frag) (G : Ads) : Sp := spP K (α := (Nat × Nat) × List Code) (fun a => [partD G a.1.1 a.1.2 a.2]) (fun a => Gd a.1.1 a.1.2 ∧ PartOk a.1.1 a.1.2 a.2) (fun a d => .lst ((wholeL a.1.2 a.2).map codeD) = d)
section
variable {P : Program} {w : World} {K : PySem.W.Frag} {mg : Str → Option Value} {base : Heap} {G : Ads} {f : Addr} {fd : FuncData}
variable {Z : Zn} {H0 : Hp} {L : Own} {Γ : Gam} {W : Hp → Addr → Prop} {E : XK} {t ta tk : TA} {te : TE} {p n m : Nat} {d e : Dt} {cs : List Code} {i : Nat} {N : Addr → Prop}
/-- zip of two lists of data -/
theorem it_zipL {α β : Type} {f : α → Dt} {g : β → Dt} {xs : List α} {ys : List β} (hd : IsSq d (xs.map f)) (he : IsSq e (ys.map g)) (h : EVA K Z H0 L Γ (fun _ => N) ta (Eq [d, e])) : IT K Z H0 L Γ N (iZipU K ta) (Eq ((List.zip xs ys).map fun z => Dt.tup [f z.1, g z.2])) := fun σ H a R q =>
  it_zip (PL := fun ds es => ds = xs.map f ∧ es = ys.map g) (fun σ H a Q q => h σ H a Q fun ds vs H' pd => q ds vs H' ⟨_, _, _, _, pd.symm, hd, he, rfl, rfl⟩) σ H a R fun items J H1 G' Y pi => q items J H1 G' Y (by
    obtain ⟨ds, es, ⟨rfl, rfl⟩, rfl⟩ := pi
    unfold zipD
    rw [List.zipWith_map, List.zip, List.map_zipWith])
theorem it_zipEL {α β : Type} {f : α → Dt} {g : β → Dt} {xs : List α} {ys : List β} (hd : IsSq d (xs.map f)) (he : IsSq e (ys.map g)) (hl : xs.length = ys.length) (h : EVA K Z H0 L Γ (fun _ => N) ta (Eq [d, e])) (hN : ∀ b, Z.M b → N b) : IT K Z H0 L Γ N (iZipE K ta (tCons (tC (.bl true)) tNil)) (Eq ((List.zip xs ys).map fun z => Dt.tup [f z.1, g z.2])) := fun σ H a R q =>
  it_zipE (W := wF) (PL := fun ds es => ds = xs.map f ∧ es = ys.map g) (fun σ H a Q q => h σ H a Q fun ds vs H' pd => q ds vs H' ⟨_, _, _, _, pd.symm, hd, he, rfl, rfl⟩) (ea_cons ev_bl ea_nil) hN (fun ds es q => by rw [q.1, q.2, List.length_map, List.length_map, hl]) σ H a R fun items J H1 G' Y pi => q items J H1 G' Y (by
    obtain ⟨ds, es, ⟨rfl, rfl⟩, rfl⟩ := pi
    unfold zipD
    rw [List.zipWith_map, List.zip, List.map_zipWith])
theorem ev_pblocks [Wd K Z L W] (h : EV K Z H0 L Γ (wW Z) te (Eq (partD G p n cs))) (g : Gd p n) (o : PartOk p n cs) : EV K Z H0 L Γ W (tMeth G.Part "blocks" (sp_Part_blocks K G) [] E te tNil) (Eq (plD (blocksM n cs))) := ev_meth (((p, n), cs) : (Nat × Nat) × List Code) h ea_nil rfl ⟨g, o⟩ (by rfl)
theorem ev_steps_of [Wd K Z L W] (h : EVA K Z H0 L Γ (wW Z) t (Eq [partD G p n cs])) (g : Gd p n) (o : PartOk p n cs) : EV K Z H0 L Γ W (tCall (sp_steps_of K G) [] E t) (Eq (.lst (((wholeL n cs).zip (wholeL n cs).tail).map stepD))) := ev_call (x := ((p, n), cs)) h ⟨g, o⟩
theorem ev_tops_of [Wd K Z L W] (h : EVA K Z H0 L Γ (wW Z) t (Eq [partD G p n cs])) (g : Gd p n) (o : PartOk p n cs) : EV K Z H0 L Γ W (tCall (sp_tops_of K G) [] E t) (Eq (.lst ((wholeL n cs).map codeD))) := ev_call (x := ((p, n), cs)) h ⟨g, o⟩
end
section
variable {P : Program} {w : World} {K : PySem.W.Frag} {mg : Str → Option Value} {base : Heap} {G : Ads} {f : Addr} {fd : FuncData}
theorem sc_Part_blocks : FnScope ["self", "n", "ends", "start", "end"] ["self"] (defScope (inClass (top 42) 5)) := ⟨rfl, rfl, rfl, by decide +kernel, rfl, by decide +kernel, by decide +kernel⟩
theorem ok_Part_blocks (F : Df K "blocks" "Part.blocks" (inClass (top 42) 5) f fd) (T : Txt K mg G) (c_Ground_n : Me P w K mg base 1 G.Ground "n" (sp_Ground_n K G)) (c_Part_ranks : Me P w K mg base 1 G.Part "ranks" (sp_Part_ranks K G)) : FnOk P w K mg base CX0 2 f fd ["self"] (sp_Part_blocks K G) := by
  have sc := sc_Part_blocks
  refine F.ok sc (fun vs H Q E h => spP_len h fun _ => rfl) (fun cdv A outer s H vs Q E hr h => ?_)
  refine ⟨_, PSs.nox (pss_cons (ps_set (i := 1) sc.nd rfl (Or.inl rfl) (pe_me0 c_Ground_n hr (by decide) (x_fld (K := K) (pv 0)))) (pss_cons (ps_set (i := 2) sc.nd rfl (Or.inl rfl) (pe_slice (x_sl (K := K)) (pe_lst (x_star (K := K) (pe_me0 c_Part_ranks hr (by decide) (pv 0)) (pa_cons (pv 1) pa_nil))) po_none (po_some (pe_callB x_max (by rfl) T.f_max (by decide +kernel) (pa_cons (pv 1) (pa_cons pe_int pa_nil)))))) (pss_cons (ps_ret (pe_callTy (x_tuple (K := K)) (by rfl) T.f_tuple (by decide +kernel) (pa_cons (pe_lc (own := [("start", 3), ("end", 4)]) rfl sc.nd (x_zip (K := K) (by rfl) T.f_zip (pa_cons (pe_lst (pa_cons pe_int (x_star (K := K) (pv 2) pa_nil))) (pa_cons (pv 2) pa_nil))) (blkOk_by (by kernel_rfl)) (fun _ _ _ _ _ => (x_tup (K := K) (n := 2) rfl (pgs_cons (pg_name (i := 3) sc.nd rfl (by first | exact Or.inl rfl | exact Or.inr rfl)) (pgs_cons (pg_name (i := 4) sc.nd rfl (by first | exact Or.inl rfl | exact Or.inr rfl)) pgs_nil)))) (fun _ _ _ _ _ => pts_nil) (fun _ _ _ _ _ => (pe_op op_sub (pv 4) (pv 3)))) pa_nil))) pss_nil))), ?_⟩
  obtain ⟨⟨⟨p, n⟩, cs⟩, ⟨g, o⟩, hargs, k⟩ := h
  have g : Gd p n := g
  have o : PartOk p n cs := o
  have nle := g.nle
  have sh := o.short
  have st : At K z0 H [] [some (partD G p n cs), none, none, none, none] (L2.start ["self", "n", "ends", "start", "end"] vs) H := at_beg hargs rfl rfl
  refine q_asg st (ev_gn (ev_fogP T (ev_varW rfl))) fun d pd σ1 H1 s1 => ?_
  subst pd
  have he : (cs.map List.length ++ [n]).take n = (wholeL n cs).tail.map List.length := by
    by_cases q : 0 < n
    · rw [List.take_of_length_le (by rw [List.length_append, List.length_map]; simp; omega)]
      unfold wholeL
      rw [if_pos q]
      show _ = (cs ++ [unitsM n]).map List.length
      rw [List.map_append]
      congr 1
      show [n] = [(unitsM n).length]
      rw [(un_units (p := p) g.pr.two).len]
    · have hn : n = 0 := by omega
      subst hn
      have hc : cs = [] := List.length_eq_zero_iff.mp (by omega)
      subst hc
      rfl
  have ht : (wholeL n cs) = [] :: (wholeL n cs).tail := rfl
  generalize hE : (wholeL n cs).tail.map List.length = ends at he
  refine q_asg s1 (EV.eq (e := Dt.lst (ends.map fun i => .int (i : Nat))) (ev_slL (ev_lst (ea_star (.tup _) (ev_pranks (cs := cs) (ev_varW rfl) (by omega)) (ea_cons (ev_varW rfl) ea_nil)) (by rw [List.length_append, List.length_map, List.length_map]; simp; omega)) eo_none (eo_some (W := wF) (i := (n : Nat)) (EV.eq (e := .int (n : Nat)) (ev_cb (ea_cons (ev_varW (d := .int (n : Nat)) rfl) (ea_cons (ev_int (i := 0)) ea_nil)) (rc_max (i := (n : Int)) (j := 0))) (by congr 1 <;> (split <;> omega))))) ?_) fun d pd σ2 H2 s2 => ?_
  · rw [cut_to2]
    show Dt.lst ((List.map (fun i : Nat => Dt.int i) (cs.map List.length) ++ List.map (fun i : Nat => Dt.int i) [n]).take n) = _
    rw [← List.map_append, ← List.map_take, he]
  subst pd
  have ll : ends.length ≤ 1000 := by
    rw [← hE, List.length_map, List.length_tail]
    have := len_tops o
    omega
  refine q_ret1 s2 (EV.eq (ev_cb (ea_cons (ev_lcM (is := [3, 4]) (es := fun z : Nat × Nat => [.int (z.1 : Nat), .int (z.2 : Nat)]) (fn := fun z => .int ((z.2 : Int) - z.1)) (it_zipL (N := Mt z0 []) (f := fun i : Nat => .int i) (g := fun i : Nat => .int i) (xs := 0 :: ends) (ys := ends) (.lst _) (.lst _) (ea_cons (EV.eq (ev_lst (ea_cons ev_int (ea_star (.lst _) (ev_varW rfl) ea_nil)) (by rw [List.length_cons, List.length_append, List.length_map]; simp; omega)) (by rw [List.append_nil]; rfl)) (ea_cons (ev_var rfl) ea_nil))) (.inl fun _ => Iff.rfl) (by rw [List.length_zip]; exact Nat.le_trans (Nat.min_le_right _ _) (by omega)) (fun _ _ => gt_tup2) (by decide) fun x hx => ?_) ea_nil) (rc_tuple (.lst _))) ?_) k
  · exact ev_op (ev_varW rfl) (ev_varW rfl) rr_sub
  · show Dt.tup _ = Dt.tup _
    congr 1
    have e1 : (0 :: ends) = (wholeL n cs).map List.length := by
      rw [← hE]
      rfl
    rw [e1, ← hE, List.zip_map, List.map_map]
    unfold blocksM
    rw [List.map_map]
    refine List.map_congr_left fun q hq => ?_
    have := (step_ok g.pr o hq).1
    show Dt.int ((q.2.length : Int) - q.1.length) = Dt.int ((q.2.length - q.1.length : Nat) : Int)
    congr 1
    omega
theorem sc_steps_of : FnScope ["part", "codes", "low", "high"] ["part"] (defScope (top 38)) := ⟨rfl, rfl, rfl, by decide +kernel, rfl, by decide +kernel, by decide +kernel⟩
theorem ok_steps_of (F : Df K "steps_of" "steps_of" (top 38) f fd) (T : Txt K mg G) (c_Ground_units : Me P w K mg base 1 G.Ground "units" (sp_Ground_units K G)) (c_Part_ground : Me P w K mg base 1 G.Part "ground" (sp_Part_ground K G)) (c_Part_codes : Me P w K mg base 1 G.Part "codes" (sp_Part_codes K G)) : FnOk P w K mg base CX0 2 f fd ["part"] (sp_steps_of K G) := by
  have sc := sc_steps_of
  refine F.ok sc (fun vs H Q E h => spP_len h fun _ => rfl) (fun cdv A outer s H vs Q E hr h => ?_)
  refine ⟨_, PSs.nox (pss_cons (ps_set (i := 1) sc.nd rfl (Or.inl rfl) (pe_lst (pa_cons (pe_tup pa_nil) (x_star (K := K) (pe_me0 c_Part_codes hr (by decide) (pv 0)) (pa_cons (pe_me0 c_Ground_units hr (by decide) (pe_me0 c_Part_ground hr (by decide) (pv 0))) pa_nil))))) (pss_cons (ps_ret (pe_lc (own := [("low", 2), ("high", 3)]) rfl sc.nd (x_zipK (K := K) (by rfl) T.f_zip (pa_cons (pe_slice (x_sl (K := K)) (pv 1) po_none (po_some (pe_un un_neg pe_int))) (pa_cons (pe_slice (x_sl (K := K)) (pv 1) (po_some pe_int) po_none) pa_nil)) (pk_cons pe_bl pk_nil)) (blkOk_by (by kernel_rfl)) (fun _ _ _ _ _ => (x_tup (K := K) (n := 2) rfl (pgs_cons (pg_name (i := 2) sc.nd rfl (by first | exact Or.inl rfl | exact Or.inr rfl)) (pgs_cons (pg_name (i := 3) sc.nd rfl (by first | exact Or.inl rfl | exact Or.inr rfl)) pgs_nil)))) (fun _ _ _ _ _ => (pts_one (pt_cmpR (x_ne (K := K) hr.units) (pv 2) (pv 3) (nomark _)))) (fun _ _ _ _ _ => (pe_tup (pa_cons (pv 2) (pa_cons (pv 3) pa_nil)))))) pss_nil)), ?_⟩
  obtain ⟨⟨⟨p, n⟩, cs⟩, ⟨g, o⟩, hargs, k⟩ := h
  have g : Gd p n := g
  have o : PartOk p n cs := o
  have nle := g.nle
  have sh := o.short
  have st : At K z0 H [] [some (partD G p n cs), none, none, none] (L2.start ["part", "codes", "low", "high"] vs) H := at_beg hargs rfl rfl
  generalize hU : ([] :: cs) ++ [unitsM n] = U
  have lU : U.length ≤ 1000 := by rw [← hU, List.length_append, List.length_cons]; simp; omega
  refine q_asg st (EV.eq (e := Dt.lst (U.map codeD)) (ev_lst (ea_cons (ev_tup ea_nil) (ea_star (.lst _) (ev_pcodes (ev_varW rfl)) (ea_cons (ev_gunits (ev_pground (ev_varW rfl)) (by omega)) ea_nil))) (by rw [List.length_cons, List.length_append, List.length_map]; simp; omega)) (by rw [← hU, List.map_append]; rfl)) fun d pd σ1 H1 s1 => ?_
  subst pd
  refine q_ret1 s1 (EV.eq (ev_lc (xs := U.dropLast.zip U.tail) (is := [2, 3]) (es := fun z : Code × Code => [codeD z.1, codeD z.2]) (p := fun z => !decide (z.1 = z.2)) (fn := stepD) (it_zipEL (N := Mt z0 []) (f := codeD) (g := codeD) (xs := U.dropLast) (ys := U.tail) (.lst _) (.lst _) (by rw [List.length_dropLast, List.length_tail]) (ea_cons (EV.eq (ev_slL (ev_varW rfl) eo_none (eo_some (W := wF) (ev_un ev_int ru_neg))) (by rw [cutD_map, cut_last])) (ea_cons (EV.eq (ev_slL (ev_varW rfl) (eo_some (W := wF) ev_int) eo_none) (by rw [cutD_map, cut_tail])) ea_nil)) (fun b h => mt_z h)) (.inl fun _ => Iff.rfl) (by rw [List.length_zip]; exact Nat.le_trans (Nat.min_le_right _ _) (by rw [List.length_tail]; omega)) (fun _ _ => gt_tup2) (by decide) (fun x hx => et_B (W := wF) (ev_op (ev_varW rfl) (ev_varW rfl) (rr_neE enc_code1))) fun x hx _ => ev_tup (ea_cons (ev_var rfl).imm (ea_cons (ev_var rfl).imm ea_nil))) ?_) k
  rw [zip_dropLast]
  congr 2
  by_cases q : 0 < n
  · have e : U = wholeL n cs := by
      rw [← hU]
      unfold wholeL
      rw [if_pos q]
    rw [e]
    refine List.filter_eq_self.mpr fun z hz => ?_
    have := (step_ok g.pr o hz).1
    simp only [Bool.not_eq_true', decide_eq_false_iff_not]
    intro z2
    rw [z2] at this
    omega
  · have hn : n = 0 := by omega
    subst hn
    have hc : cs = [] := List.length_eq_zero_iff.mp (by omega)
    subst hc
    subst hU
    rfl
theorem sc_tops_of : FnScope ["part", "low", "high"] ["part"] (defScope (top 44)) := ⟨rfl, rfl, rfl, by decide +kernel, rfl, by decide +kernel, by decide +kernel⟩
theorem ok_tops_of (F : Df K "tops_of" "tops_of" (top 44) f fd) (T : Txt K mg G) (c_steps_of : Cl P w K mg base 2 "steps_of" (sp_steps_of K G)) : FnOk P w K mg base CX0 3 f fd ["part"] (sp_tops_of K G) := by
  have sc := sc_tops_of
  refine F.ok sc (fun vs H Q E h => spP_len h fun _ => rfl) (fun cdv A outer s H vs Q E hr h => ?_)
  refine ⟨_, PSs.nox (pss_cons (ps_ret (pe_lst (pa_cons (pe_tup pa_nil) (x_star (K := K) (pe_lc (own := [("low", 1), ("high", 2)]) rfl sc.nd (x_sq (K := K) (pe_cl c_steps_of hr (by decide) (by rfl) (pa_cons (pv 0) pa_nil))) (blkOk_by (by kernel_rfl)) (fun _ _ _ _ _ => (x_tup (K := K) (n := 2) rfl (pgs_cons (pg_name (i := 1) sc.nd rfl (by first | exact Or.inl rfl | exact Or.inr rfl)) (pgs_cons (pg_name (i := 2) sc.nd rfl (by first | exact Or.inl rfl | exact Or.inr rfl)) pgs_nil)))) (fun _ _ _ _ _ => pts_nil) (fun _ _ _ _ _ => (pv 2))) pa_nil)))) pss_nil), ?_⟩
  obtain ⟨⟨⟨p, n⟩, cs⟩, ⟨g, o⟩, hargs, k⟩ := h
  have g : Gd p n := g
  have o : PartOk p n cs := o
  have nle := g.nle
  have lt := len_tops o
  have st : At K z0 H [] [some (partD G p n cs), none, none] (L2.start ["part", "low", "high"] vs) H := at_beg hargs rfl rfl
  refine q_ret1 st (EV.eq (ev_lst (ea_cons (ev_tup ea_nil) (ea_star (.lst _) (ev_lcM (xs := (wholeL n cs).zip (wholeL n cs).tail) (h := stepD) (is := [1, 2]) (es := fun z : Code × Code => [codeD z.1, codeD z.2]) (fn := fun z => codeD z.2) (it_lst (ev_steps_of (ea_cons (ev_varW rfl) ea_nil) g o)) (.inl fun _ => Iff.rfl) (by rw [List.length_zip]; omega) (fun _ _ => gt_tup2) (by decide) fun x hx => (ev_var rfl).imm) ea_nil)) (by rw [List.length_cons, List.length_append, List.length_map, List.length_zip]; simp; omega)) ?_) k
  rw [List.append_nil]
  show Dt.lst (codeD [] :: _) = Dt.lst (((wholeL n cs)).map codeD)
  have e : wholeL n cs = [] :: (wholeL n cs).tail := rfl
  have e2 : ((wholeL n cs).zip (wholeL n cs).tail).map (fun z : Code × Code => codeD z.2) = (wholeL n cs).tail.map codeD := by
    have := congrArg (List.map codeD) (zip_snd (wholeL n cs))
    rw [List.map_map] at this
    exact this
  rw [e2]
  rfl
end
end Wk
end
section
set_option Elab.async false
set_option linter.all false
set_option maxRecDepth 100000
set_option maxHeartbeats 4000000
set_option autoImplicit false
namespace Wk
open PySem L2 Ly Mx
/-! ### cross tables -/
def rk (p n : Nat) (a b : Code) : Int := ((commonM p n a b).length : Nat)
def rowT (p n : Nat) (a b : Code) (U : List Code) : List Int := (U.zip U.tail).map fun q => (rk p n b q.2 - rk p n a q.2) - (rk p n b q.1 - rk p n a q.1)
def tabM (p n : Nat) (T U : List Code) : List (List Int) := (T.zip T.tail).map fun s => rowT p n s.1 s.2 U
abbrev tabD (t : List (List Int)) : Dt := .tup (t.map rowD)
def sp_check_alike (K : PySem.W.Frag) (G : Ads) : Sp := spP K (α := (Nat × Nat) × List Code × List Code) (fun a => [.lst [partD G a.1.1 a.1.2 a.2.1, partD G a.1.1 a.1.2 a.2.2]]) (fun _ => True) (fun _ d => .non = d)
def PtOk (a : (Nat × Nat) × List Code) : Prop := Gd a.1.1 a.1.2 ∧ PartOk a.1.1 a.1.2 a.2
def sp_part_table (K : PySem.W.Frag) (G : Ads) : Sp := spP K (α := (Nat × Nat) × List Code × List Code) (fun a => [partD G a.1.1 a.1.2 a.2.1, partD G a.1.1 a.1.2 a.2.2]) (fun a => Gd a.1.1 a.1.2 ∧ PartOk a.1.1 a.1.2 a.2.1 ∧ PartOk a.1.1 a.1.2 a.2.2)
  (fun a d => tabD (tabM a.1.1 a.1.2 (wholeL a.1.2 a.2.1) (wholeL a.1.2 a.2.2)) = d)
/-- unlike grounds -/
def spR_check_alike (K : PySem.W.Frag) (G : Ads) : Sp := spR K G.UnlikeGrounds (α := ((Nat × Nat) × List Code) × ((Nat × Nat) × List Code)) (fun a => [.lst [partD G a.1.1.1 a.1.1.2 a.1.2, partD G a.2.1.1 a.2.1.2 a.2.2]]) (fun a => a.1.1 ≠ a.2.1)
def spR_part_table (K : PySem.W.Frag) (G : Ads) : Sp := spR K G.UnlikeGrounds (α := ((Nat × Nat) × List Code) × ((Nat × Nat) × List Code)) (fun a => [partD G a.1.1.1 a.1.1.2 a.1.2, partD G a.2.1.1 a.2.1.2 a.2.2]) (fun a => a.1.1 ≠ a.2.1)
def spR_part_frame (K : PySem.W.Frag) (G : Ads) : Sp := spR K G.UnlikeGrounds (α := ((Nat × Nat) × List Code) × ((Nat × Nat) × List Code)) (fun a => [partD G a.1.1.1 a.1.1.2 a.1.2, partD G a.2.1.1 a.2.1.2 a.2.2]) (fun a => a.1.1 ≠ a.2.1)
section
variable {P : Program} {w : World} {K : PySem.W.Frag} {mg : Str → Option Value} {base : Heap} {G : Ads} {f : Addr} {fd : FuncData}
theorem okR_check_alike (F : Df K "check_alike" "check_alike" (top 37) f fd) (T : Txt K mg G) {fU : Addr} (S : SupX.SupTxt P K mg "UnlikeGrounds" G.UnlikeGrounds fU) (c_Ground_eq : Eqs P w K mg base 1 G.Ground (sp_Ground__eq_ K G)) (c_Part_ground : Me P w K mg base 1 G.Part "ground" (sp_Part_ground K G)) : FnOk P w K mg base (L2.CX P w) 3 f fd ["things"] (spR_check_alike K G) := by
  have sc : FnScope ["things", "thing"] ["things"] (defScope (top 37)) := ⟨rfl, rfl, rfl, by decide +kernel, rfl, by decide +kernel, by decide +kernel⟩
  refine F.ok sc (fun vs H Q E h => spR_len h fun _ => rfl) (fun cdv A outer s H vs Q E hr h => ?_)
  refine ⟨_, (pss_cons (ps_for (passes_of rfl) rfl (x_sq (K := K) (pv 0)) (pg_name (i := 1) sc.nd rfl (Or.inl rfl)) (pss_cons (ps_if (pt_cmpR (op_ownN c_Ground_eq hr (by decide)) (pe_me0 c_Part_ground hr (by decide) (pv 1)) (pe_me0 c_Part_ground hr (by decide) (pe_ix (x_ix (K := K)) (pv 0) pe_int (fun _ _ => rfl))) (nomark _)) (pss_cons (ps_raiseSup rfl S hr (takes_of rfl rfl rfl rfl) (by rfl)) pss_nil) pss_nil) pss_nil)) pss_nil), ?_⟩
  obtain ⟨⟨⟨⟨p, n⟩, cs⟩, ⟨⟨q, m⟩, ds⟩⟩, ne, hargs, k⟩ := h
  have ne : (p, n) ≠ (q, m) := ne
  have st : At K z0 H [] [some (.lst [partD G p n cs, partD G q m ds]), none] (L2.start ["things", "thing"] vs) H := at_beg hargs rfl rfl
  have hq : IsSq (.lst [partD G p n cs, partD G q m ds]) [partD G p n cs, partD G q m ds] := .lst _
  refine q_for (β := Unit) (I := fun _ i _ => i ≤ 1) (Lf := fun _ _ _ => []) (Γf := fun _ _ _ => [some (.lst [partD G p n cs, partD G q m ds]), none]) (is := [1]) (es := fun d => [d]) st (it_sq hq (ev_var rfl)) (fun _ _ _ _ => gt_name) (fun _ _ _ => rfl) (fun _ _ => ⟨(), Nat.zero_le _, rfl, .keep (.keep .nil)⟩) ?_ ?_
  · intro items pi i d _ hd hi H1 g1 σ2 H2 s2 N kN
    subst pi
    have h0 : ([partD G p n cs, partD G q m ds] : List Dt)[0]? = some (partD G p n cs) := rfl
    rcases (show i = 0 ∨ i = 1 by omega) with z | z
    · subst z
      cases hd
      refine q_if s2 (EVT.eq (c := false) (et_B (W := wF) (ev_op (ev_pground (cs := cs) (ev_varW rfl)) (ev_pground (ev_ix0 (ev_varW rfl) hq h0)) (rr_own (r := true) (((p, n), (p, n)) : (Nat × Nat) × (Nat × Nat)) rfl trivial fun d q => q.trans (by simp)))) rfl) (fun z => nomatch z) fun _ H3 s3 => ?_
      exact q_next (kN () σ2 H3 (Nat.le_refl _) (s3.less (.keep (.drop .nil))))
    · subst z
      cases hd
      refine q_if s2 (EVT.eq (c := true) (et_B (W := wF) (ev_op (ev_pground (cs := ds) (ev_varW rfl)) (ev_pground (ev_ix0 (ev_varW rfl) hq h0)) (rr_own (r := false) (((q, m), (p, n)) : (Nat × Nat) × (Nat × Nat)) rfl trivial fun d z => z.trans ?_))) rfl) (fun _ H3 s3 => ?_) fun z => nomatch z
      · congr 1
        exact decide_eq_false fun z => ne (by cases z; rfl)
      · exact k H3 ((s3.base g1).ex0 fun _ q => nomatch q)
  · intro items pi _ hi σ2 H2 s2
    subst pi
    exact absurd (show (2 : Nat) ≤ 1 from hi) (by decide)
theorem okR_part_table (F : Df K "part_table" "part_table" (top 45) f fd) (T : Txt K mg G) (c_check_alike_R : ClX P w K mg base 3 "check_alike" (spR_check_alike K G)) : FnOk P w K mg base (L2.CX P w) 4 f fd ["one", "other"] (spR_part_table K G) := by
  have sc : FnScope ["one", "other", "found", "early", "code", "ranks", "rises", "top", "rank", "before", "soon", "late"] ["one", "other"] (defScope (top 45)) := ⟨rfl, rfl, rfl, by decide +kernel, rfl, by decide +kernel, by decide +kernel⟩
  refine F.ok sc (fun vs H Q E h => spR_len h fun _ => rfl) (fun cdv A outer s H vs Q E hr h => ?_)
  refine ⟨_, (pss_cons (ps_expr (pe_clX c_check_alike_R hr (by decide) (takes_of rfl rfl rfl rfl) (by rfl) (pa_cons (pe_lst (pa_cons (pv 0) (pa_cons (pv 1) pa_nil))) pa_nil))) pss_never), ?_⟩
  obtain ⟨⟨⟨⟨p, n⟩, cs⟩, ⟨⟨q, m⟩, ds⟩⟩, ne, hargs, k⟩ := h
  have st : At K z0 H [] [some (partD G p n cs), some (partD G q m ds), none, none, none, none, none, none, none, none, none, none] (L2.start ["one", "other", "found", "early", "code", "ranks", "rises", "top", "rank", "before", "soon", "late"] vs) H := at_beg hargs rfl rfl
  exact q_raiseC st (((p, n), cs), ((q, m), ds)) (ea_cons (ev_lst (ea_cons (ev_varW rfl) (ea_cons (ev_varW rfl) ea_nil))) ea_nil) ne k
theorem okR_part_frame (F : Df K "part_frame" "part_frame" (top 47) f fd) (T : Txt K mg G) (c_check_alike_R : ClX P w K mg base 3 "check_alike" (spR_check_alike K G)) : FnOk P w K mg base (L2.CX P w) 4 f fd ["one", "other"] (spR_part_frame K G) := by
  have sc : FnScope ["one", "other", "ground", "found", "rows", "columns", "x", "y", "left", "up", "fresh", "row"] ["one", "other"] (defScope (top 47)) := ⟨rfl, rfl, rfl, by decide +kernel, rfl, by decide +kernel, by decide +kernel⟩
  refine F.ok sc (fun vs H Q E h => spR_len h fun _ => rfl) (fun cdv A outer s H vs Q E hr h => ?_)
  refine ⟨_, (pss_cons (ps_expr (pe_clX c_check_alike_R hr (by decide) (takes_of rfl rfl rfl rfl) (by rfl) (pa_cons (pe_lst (pa_cons (pv 0) (pa_cons (pv 1) pa_nil))) pa_nil))) pss_never), ?_⟩
  obtain ⟨⟨⟨⟨p, n⟩, cs⟩, ⟨⟨q, m⟩, ds⟩⟩, ne, hargs, k⟩ := h
  have st : At K z0 H [] [some (partD G p n cs), some (partD G q m ds), none, none, none, none, none, none, none, none, none, none] (L2.start ["one", "other", "ground", "found", "rows", "columns", "x", "y", "left", "up", "fresh", "row"] vs) H := at_beg hargs rfl rfl
  exact q_raiseC st (((p, n), cs), ((q, m), ds)) (ea_cons (ev_lst (ea_cons (ev_varW rfl) (ea_cons (ev_varW rfl) ea_nil))) ea_nil) ne k
end
section
variable {P : Program} {w : World} {K : PySem.W.Frag} {mg : Str → Option Value} {base : Heap} {G : Ads} {f : Addr} {fd : FuncData}
variable {Z : Zn} {H0 : Hp} {L : Own} {Γ : Gam} {W : Hp → Addr → Prop} {E : XK} {t ta tk : TA} {te : TE} {p n m : Nat} {d e : Dt} {cs ds : List Code} {i : Nat} {σ : L2.St} {H : Hp} {D : Ends} {tz : TS}
theorem rk_nil (pr : Pr p) {b : Code} (eb : Ech p n b) : rk p n [] b = 0 := by
  have hp : 0 < p := Nat.lt_of_lt_of_le (by decide) pr.two
  have en : Ech p n [] := ⟨fun _ h => (nomatch h), fun _ h => (nomatch h), .nil⟩
  unfold rk
  show ((com p n [] b).length : Int) = 0
  have h1 := len_both pr en eb
  have h2 := len_joi_nil pr eb
  rw [h2] at h1
  simp at h1
  rw [h1]
  rfl
/-- a pair of a new list and a value -/
theorem q_parO1 {i j : Nat} {te te2 : TE} {es : List Dt} (a : At K Z H0 L Γ σ H) (h1 : EV K Z H0 L Γ wF te (Eq (.lst es))) (hi : ImmL es) (h2 : ∀ l, EV K Z H0 ((l, es) :: L) Γ (wS Z ((l, es) :: L)) te2 (Eq d)) (k : ∀ l σ' H', H0 l = none → At K Z H0 ((l, es) :: L) ((Γ.set i (some (.raw (.ref l)))).set j (some d)) σ' H' → tz D σ' H') : tSeq (tPar i j (tCons te (tCons te2 tNil))) tz D σ H :=
  h1 σ H a _ fun d1 v1 H1 p g jj x1 => by
    subst p
    cases x1 with
    | lst e n l =>
      rename_i b xs
      have hl : H b = none := Classical.byContradiction n
      have a1 := a.own_new g jj hl e l hi
      refine h2 b σ H1 a1 _ fun d2 v2 H2 p2 g2 j2 x2 => ?_
      subst p2
      exact ⟨_, _, rfl, k b _ H2 (a.base_none hl) (((a1.step g2 j2).set i (.raw _)).set j x2)⟩
theorem ev_check_alikeP [Wd K Z L W] (h : EVA K Z H0 L Γ (wW Z) t (Eq [.lst [partD G p n cs, partD G p n ds]])) : EV K Z H0 L Γ W (tCall (sp_check_alike K G) [] E t) (Eq .non) := ev_call (x := ((p, n), cs, ds)) h trivial
theorem ev_part_table [Wd K Z L W] (h : EVA K Z H0 L Γ (wW Z) t (Eq [partD G p n cs, partD G p n ds])) (g : Gd p n) (o : PartOk p n cs) (o2 : PartOk p n ds) : EV K Z H0 L Γ W (tCall (sp_part_table K G) [] E t) (Eq (tabD (tabM p n (wholeL n cs) (wholeL n ds)))) := ev_call (x := ((p, n), cs, ds)) h ⟨g, o, o2⟩
end
section
variable {P : Program} {w : World} {K : PySem.W.Frag} {mg : Str → Option Value} {base : Heap} {G : Ads} {f : Addr} {fd : FuncData}
theorem sc_check_alike : FnScope ["things", "thing"] ["things"] (defScope (top 37)) := ⟨rfl, rfl, rfl, by decide +kernel, rfl, by decide +kernel, by decide +kernel⟩
theorem ok_check_alike (F : Df K "check_alike" "check_alike" (top 37) f fd) (T : Txt K mg G) (c_Ground_eq : Eqs P w K mg base 1 G.Ground (sp_Ground__eq_ K G)) (c_Part_ground : Me P w K mg base 1 G.Part "ground" (sp_Part_ground K G)) : FnOk P w K mg base CX0 3 f fd ["things"] (sp_check_alike K G) := by
  have sc := sc_check_alike
  refine F.ok sc (fun vs H Q E h => spP_len h fun _ => rfl) (fun cdv A outer s H vs Q E hr h => ?_)
  refine ⟨_, PSs.nox (pss_cons (ps_for PassesOwn.never rfl (x_sq (K := K) (pv 0)) (pg_name (i := 1) sc.nd rfl (Or.inl rfl)) (pss_cons (ps_if (pt_cmpR (op_ownN c_Ground_eq hr (by decide)) (pe_me0 c_Part_ground hr (by decide) (pv 1)) (pe_me0 c_Part_ground hr (by decide) (pe_ix (x_ix (K := K)) (pv 0) pe_int (fun _ _ => rfl))) (nomark _)) pss_never pss_nil) pss_nil)) pss_nil), ?_⟩
  obtain ⟨⟨⟨p, n⟩, cs, ds⟩, _, hargs, k⟩ := h
  have st : At K z0 H [] [some (.lst [partD G p n cs, partD G p n ds]), none] (L2.start ["things", "thing"] vs) H := at_beg hargs rfl rfl
  have hq : IsSq (.lst [partD G p n cs, partD G p n ds]) [partD G p n cs, partD G p n ds] := .lst _
  have h0 : ([partD G p n cs, partD G p n ds] : List Dt)[0]? = some (partD G p n cs) := rfl
  refine q_for (β := Unit) (I := fun _ i _ => True) (Lf := fun _ _ _ => []) (Γf := fun _ _ _ => [some (.lst [partD G p n cs, partD G p n ds]), none]) (is := [1]) (es := fun d => [d]) st (it_sq hq (ev_var rfl)) (fun _ _ _ _ => gt_name) (fun _ _ _ => rfl) (fun _ _ => ⟨(), trivial, rfl, .keep (.keep .nil)⟩) ?_ ?_
  · intro items pi i d _ hd _ H1 g1 σ2 H2 s2 N kN
    subst pi
    have hd2 : ∃ es, d = partD G p n es := by
      have := List.mem_of_getElem? hd
      rcases List.mem_cons.mp this with z | z
      · exact ⟨cs, z⟩
      · exact ⟨ds, List.mem_singleton.mp z⟩
    obtain ⟨es, rfl⟩ := hd2
    refine q_if s2 (EVT.eq (c := false) (et_B (W := wF) (ev_op (ev_pground (cs := es) (ev_varW rfl)) (ev_pground (ev_ix0 (ev_varW rfl) hq h0)) (rr_own (r := true) (((p, n), (p, n)) : (Nat × Nat) × (Nat × Nat)) rfl trivial fun d q => q.trans (by simp)))) rfl) (fun z => nomatch z) fun _ H3 s3 => ?_
    exact q_next (kN () σ2 H3 trivial (s3.less (.keep (.drop .nil))))
  · intro items pi _ _ σ2 H2 s2
    exact k _ _ _ rfl (s2.ex0 fun _ q => nomatch q) .non
theorem sc_part_table : FnScope ["one", "other", "found", "early", "code", "ranks", "rises", "top", "rank", "before", "soon", "late"] ["one", "other"] (defScope (top 45)) := ⟨rfl, rfl, rfl, by decide +kernel, rfl, by decide +kernel, by decide +kernel⟩
theorem ok_part_table (F : Df K "part_table" "part_table" (top 45) f fd) (T : Txt K mg G) (c_check_alike : Cl P w K mg base 3 "check_alike" (sp_check_alike K G)) (c_tops_of : Cl P w K mg base 3 "tops_of" (sp_tops_of K G)) (c_common : Cl P w K mg base 6 "common" (sp_common K G)) (c_Part_ground : Me P w K mg base 1 G.Part "ground" (sp_Part_ground K G)) : FnOk P w K mg base CX0 7 f fd ["one", "other"] (sp_part_table K G) := by
  have sc := sc_part_table
  refine F.ok sc (fun vs H Q E h => spP_len h fun _ => rfl) (fun cdv A outer s H vs Q E hr h => ?_)
  refine ⟨_, PSs.nox (pss_cons (ps_expr (pe_cl c_check_alike hr (by decide) (by rfl) (pa_cons (pe_lst (pa_cons (pv 0) (pa_cons (pv 1) pa_nil))) pa_nil))) (pss_cons (ps_par (i := 2) (j := 3) (by rfl) sc.nd rfl rfl (by decide) rfl rfl (pa_cons (pe_lst pa_nil) (pa_cons (pe_lc (own := [("code", 4)]) rfl sc.nd (x_sq (K := K) (pe_cl c_tops_of hr (by decide) (by rfl) (pa_cons (pv 1) pa_nil))) (blkOk_by (by kernel_rfl)) (fun _ _ _ _ _ => (pg_name (i := 4) sc.nd rfl (by first | exact Or.inl rfl | exact Or.inr rfl))) (fun _ _ _ _ _ => pts_nil) (fun _ _ _ _ _ => pe_int)) pa_nil)) (by rfl)) (pss_cons (ps_for PassesOwn.never rfl (x_sq (K := K) (pe_slice (x_sl (K := K)) (pe_cl c_tops_of hr (by decide) (by rfl) (pa_cons (pv 0) pa_nil)) (po_some pe_int) po_none)) (pg_name (i := 4) sc.nd rfl (Or.inr rfl)) (pss_cons (ps_setLc (i := 5) (own := [("top", 7)]) rfl sc.nd rfl rfl (sw_true rfl rfl rfl (by decide +kernel)) (x_sq (K := K) (pe_cl c_tops_of hr (by decide) (by rfl) (pa_cons (pv 1) pa_nil))) (blkOk_by (by kernel_rfl)) (fun _ _ _ _ _ => (pg_name (i := 7) sc.nd rfl (by first | exact Or.inl rfl | exact Or.inr rfl))) (fun _ _ _ _ _ => pts_nil) (fun _ _ _ _ _ => (pe_callB (x_len (K := K)) (by rfl) T.f_len PySem.boot_len (pa_cons (pe_cl c_common hr (by decide) (by rfl) (pa_cons (pe_me0 c_Part_ground hr (by decide) (pv 0)) (pa_cons (pv 4) (pa_cons (pv 7) pa_nil)))) pa_nil)))) (pss_cons (ps_setLc (i := 6) (own := [("rank", 8), ("before", 9)]) rfl sc.nd rfl rfl (sw_true rfl rfl rfl (by decide +kernel)) (x_zipK (K := K) (by rfl) T.f_zip (pa_cons (pv 5) (pa_cons (pv 3) pa_nil)) (pk_cons pe_bl pk_nil)) (blkOk_by (by kernel_rfl)) (fun _ _ _ _ _ => (x_tup (K := K) (n := 2) rfl (pgs_cons (pg_name (i := 8) sc.nd rfl (by first | exact Or.inl rfl | exact Or.inr rfl)) (pgs_cons (pg_name (i := 9) sc.nd rfl (by first | exact Or.inl rfl | exact Or.inr rfl)) pgs_nil)))) (fun _ _ _ _ _ => pts_nil) (fun _ _ _ _ _ => (pe_op op_sub (pv 8) (pv 9)))) (pss_cons (ps_expr (x_bm (K := K) PySem.F.plainAttrs_list PySem.F.slot_list_append PySem.F.type_list_append mt_append (pv 2) (pa_cons (pe_callTy (x_tuple (K := K)) (by rfl) T.f_tuple (by decide +kernel) (pa_cons (pe_lc (own := [("soon", 10), ("late", 11)]) rfl sc.nd (x_zipK (K := K) (by rfl) T.f_zip (pa_cons (pe_slice (x_sl (K := K)) (pv 6) po_none (po_some (pe_un un_neg pe_int))) (pa_cons (pe_slice (x_sl (K := K)) (pv 6) (po_some pe_int) po_none) pa_nil)) (pk_cons pe_bl pk_nil)) (blkOk_by (by kernel_rfl)) (fun _ _ _ _ _ => (x_tup (K := K) (n := 2) rfl (pgs_cons (pg_name (i := 10) sc.nd rfl (by first | exact Or.inl rfl | exact Or.inr rfl)) (pgs_cons (pg_name (i := 11) sc.nd rfl (by first | exact Or.inl rfl | exact Or.inr rfl)) pgs_nil)))) (fun _ _ _ _ _ => pts_nil) (fun _ _ _ _ _ => (pe_op op_sub (pv 11) (pv 10)))) pa_nil)) pa_nil))) (pss_cons (ps_set (i := 3) sc.nd rfl (Or.inl rfl) (pv 5)) pss_nil))))) (pss_cons (ps_ret (pe_callTy (x_tuple (K := K)) (by rfl) T.f_tuple (by decide +kernel) (pa_cons (pv 2) pa_nil))) pss_nil)))), ?_⟩
  obtain ⟨⟨⟨p, n⟩, cs, ds⟩, ⟨g, o, o2⟩, hargs, k⟩ := h
  have g : Gd p n := g
  have o : PartOk p n cs := o
  have o2 : PartOk p n ds := o2
  have nle := g.nle
  have l1 := len_tops o
  have l2 := len_tops o2
  have st : At K z0 H [] [some (partD G p n cs), some (partD G p n ds), none, none, none, none, none, none, none, none, none, none] (L2.start ["one", "other", "found", "early", "code", "ranks", "rises", "top", "rank", "before", "soon", "late"] vs) H := at_beg hargs rfl rfl
  have t1 : ∀ c ∈ wholeL n cs, Ech p n c ∧ c.length ≤ n := fun c => top_ok g.pr o
  have t2 : ∀ c ∈ wholeL n ds, Ech p n c ∧ c.length ≤ n := fun c => top_ok g.pr o2
  have tz : wholeL n cs = [] :: (wholeL n cs).tail := rfl
  refine q_drop st (ev_check_alikeP (W := wF) (ea_cons (ev_lst (ea_cons (ev_varW rfl) (ea_cons (ev_varW rfl) ea_nil))) ea_nil)) fun d pd H1 s1 => ?_
  refine q_parO1 (i := 2) (j := 3) (es := []) (d := lstD ((wholeL n ds).map fun b => rk p n [] b)) s1 (ev_lst ea_nil) inferInstance (fun l => EV.eq (ev_lcM (xs := wholeL n ds) (h := codeD) (is := [4]) (es := fun c => [codeD c]) (fn := fun _ => .int 0) (it_lst (ev_tops_of (ea_cons (ev_varW rfl) ea_nil) g o2)) (.inl fun _ => Iff.rfl) (by omega) (fun _ _ => gt_name) (by decide) fun x hx => ev_int) ?_) fun l σ2 H2 nl s2 => ?_
  · show Dt.lst _ = Dt.lst _
    rw [List.map_map]
    exact congrArg Dt.lst (List.map_congr_left fun b hb => by show Dt.int 0 = Dt.int (rk p n [] b); rw [rk_nil g.pr (t2 b hb).1])
  refine q_for (β := Unit) (I := fun _ i _ => True) (Lf := fun _ i _ => [(l, ((tabM p n (wholeL n cs) (wholeL n ds)).take i).map rowD)]) (Γf := fun _ i _ => [some (partD G p n cs), some (partD G p n ds), some (.raw (.ref l)), some (lstD ((wholeL n ds).map fun b => rk p n ((wholeL n cs).getD i []) b)), none, none, none, none, none, none, none, none]) (is := [4]) (es := fun d => [d]) (PL := Eq ((wholeL n cs).tail.map codeD)) s2
    (it_sq (.lst _) (EV.eq (ev_slL (ev_tops_of (ea_cons (ev_varW rfl) ea_nil) g o) (eo_some (W := wF) ev_int) eo_none) (by rw [cutD_map, cut_tail]))) (fun _ _ _ _ => gt_name) (fun _ _ _ => rfl) (fun _ _ => ⟨(), trivial, rfl, .keep (.keep (.keep (.keep (.keep (.keep (.keep (.keep (.keep (.keep (.keep (.keep .nil)))))))))))⟩) ?_ ?_
  · intro items pi i d _ hd _ H3 g3 σ3 H4 s3 N kN
    subst pi
    obtain ⟨c, hc, rfl⟩ : ∃ c, (wholeL n cs)[i + 1]? = some c ∧ d = codeD c := by
      rw [List.getElem?_map, List.getElem?_tail] at hd
      cases q : (wholeL n cs)[i + 1]? with
      | none => rw [q] at hd; cases hd
      | some c => rw [q] at hd; cases hd; exact ⟨c, rfl, rfl⟩
    have hi : i + 1 < (wholeL n cs).length := (List.getElem?_eq_some_iff.mp hc).1
    obtain ⟨a, ha⟩ : ∃ a, (wholeL n cs)[i]? = some a := ⟨_, List.getElem?_eq_getElem (by omega)⟩
    have ea : (wholeL n cs).getD i [] = a := by rw [List.getD_eq_getElem?_getD, ha]; rfl
    have ec : (wholeL n cs).getD (i + 1) [] = c := by rw [List.getD_eq_getElem?_getD, hc]; rfl
    rw [ea] at s3
    obtain ⟨c1, c2⟩ := t1 c (List.mem_of_getElem? hc)
    have hrow : (tabM p n (wholeL n cs) (wholeL n ds))[i]? = some (rowT p n a c (wholeL n ds)) := by
      unfold tabM
      have hz : ((wholeL n cs).zip (wholeL n cs).tail)[i]? = some (a, c) := by rw [List.getElem?_zip_eq_some]; exact ⟨ha, by rw [List.getElem?_tail]; exact hc⟩
      rw [List.getElem?_map, hz]
      rfl
    refine q_asg s3 (EV.eq (e := lstD ((wholeL n ds).map fun b => rk p n c b)) (ev_lcM (xs := wholeL n ds) (h := codeD) (is := [7]) (es := fun c => [codeD c]) (fn := fun b => .int (rk p n c b)) (it_lst (ev_tops_of (ea_cons (ev_varW rfl) ea_nil) g o2)) (.inl fun _ => Iff.rfl) (by omega) (fun _ _ => gt_name) (by decide) fun b hb => ?_) ?_) fun d pd σ5 H5 s5 => ?_
    · obtain ⟨b1, b2⟩ := t2 b hb
      exact EV.eq (ev_cb (ea_cons (ev_common (ea_cons (ev_pground (ev_varW rfl)) (ea_cons (ev_varW rfl) (ea_cons (ev_varW rfl) ea_nil))) g ⟨by omega, c1.ok⟩ ⟨by omega, b1.ok⟩) ea_nil) (rc_len (.tup _))) (by rw [List.length_map]; rfl)
    · show Dt.lst _ = Dt.lst _
      rw [List.map_map]
      rfl
    subst pd
    refine q_asg s5 (EV.eq (e := lstD ((wholeL n ds).map fun b => rk p n c b - rk p n a b)) (ev_lcM (xs := ((wholeL n ds).map fun b => rk p n c b).zip ((wholeL n ds).map fun b => rk p n a b)) (is := [8, 9]) (es := fun z : Int × Int => [.int z.1, .int z.2]) (fn := fun z => .int (z.1 - z.2)) (it_zipEL (N := Mt z0 [(l, _)]) (f := Dt.int) (g := Dt.int) (.lst _) (.lst _) (by rw [List.length_map, List.length_map]) (ea_cons (ev_var rfl) (ea_cons (ev_var rfl) ea_nil)) (fun b h => mt_z h)) (.inl fun _ => Iff.rfl) (by rw [List.length_zip, List.length_map]; omega) (fun _ _ => gt_tup2) (by decide) fun z hz => ev_op (ev_varW rfl) (ev_varW rfl) rr_sub) ?_) fun d pd σ6 H6 s6 => ?_
    · rw [List.zip_map', List.map_map]
      show Dt.lst _ = Dt.lst _
      rw [List.map_map]
      rfl
    subst pd
    generalize hR : ((wholeL n ds).map fun b => rk p n c b - rk p n a b) = R at s6
    have lR : R.length ≤ 1000 := by rw [← hR, List.length_map]; omega
    have eR : (R.dropLast.zip R.tail).map (fun z => z.2 - z.1) = rowT p n a c (wholeL n ds) := by
      rw [zip_dropLast, ← hR]
      unfold rowT
      rw [← List.map_tail, List.zip_map, List.map_map]
      rfl
    refine q_append (n := 0) (l := l) s6 rfl rfl inferInstance (by rw [List.length_map, List.length_take]; unfold tabM; rw [List.length_map, List.length_zip]; omega) (P := Eq (rowD (rowT p n a c (wholeL n ds)))) (EV.eq (ev_cb (ea_cons (ev_lcM (xs := R.dropLast.zip R.tail) (is := [10, 11]) (es := fun z : Int × Int => [.int z.1, .int z.2]) (fn := fun z => .int (z.2 - z.1)) (it_zipEL (N := Mt z0 [(l, _)]) (f := Dt.int) (g := Dt.int) (xs := R.dropLast) (ys := R.tail) (.lst _) (.lst _) (by rw [List.length_dropLast, List.length_tail]) (ea_cons (EV.eq (ev_slL (ev_varW rfl) eo_none (eo_some (W := wF) (ev_un ev_int ru_neg))) (by rw [cutD_map, cut_last])) (ea_cons (EV.eq (ev_slL (ev_varW rfl) (eo_some (W := wF) ev_int) eo_none) (by rw [cutD_map, cut_tail])) ea_nil)) (fun b h => mt_z h)) (.inl fun _ => Iff.rfl) (by rw [List.length_zip, List.length_tail]; omega) (fun _ _ => gt_tup2) (by decide) fun z hz => ev_op (ev_varW rfl) (ev_varW rfl) rr_sub) ea_nil) (rc_tuple (.lst _))) ?_) (fun d q => q ▸ inferInstance) fun d pd σ7 H7 s7 => ?_
    · show Dt.tup _ = Dt.tup _
      rw [← eR, List.map_map]
      rfl
    subst pd
    refine q_asg s7 (ev_var rfl) fun d pd σ8 H8 s8 => ?_
    subst pd
    refine q_next (kN () σ8 H8 trivial ?_)
    rw [ec, List.take_add_one, hrow, List.map_append]
    exact s8.less (.keep (.keep (.keep (.keep (.drop (.drop (.drop (.keep (.keep (.keep (.keep (.keep .nil))))))))))))
  · intro items pi _ _ σ3 H3 s3
    subst pi
    refine q_ret s3 (fun q hq => by rw [List.mem_singleton.mp hq]; exact nl) (P := Eq (tabD (tabM p n (wholeL n cs) (wholeL n ds)))) (EV.eq (ev_cb (ea_cons (ev_own rfl (List.mem_cons_self ..)) ea_nil) (rc_tuple (.lst _))) ?_) k
    show Dt.tup _ = Dt.tup _
    rw [List.take_of_length_le (by unfold tabM; rw [List.length_map, List.length_map, List.length_zip, List.length_tail]; omega)]
end
end Wk
end
section
set_option Elab.async false
set_option linter.all false
set_option maxRecDepth 100000
set_option maxHeartbeats 4000000
set_option autoImplicit false
namespace Wk
open PySem L2 Ly Mx
/-! ### drawn partial nests, and the law's own cross table -/
def Up (p n : Nat) (cs : List Code) : Prop := (∀ c ∈ cs, CodeOk p n c ∧ 0 < c.length ∧ c.length < n) ∧ cs.Pairwise fun a b => a.length < b.length ∧ ∀ r, Sp p n a r → Sp p n b r
theorem Up.sub {p n : Nat} {cs ds : List Code} (u : Up p n ds) (h : cs.Sublist ds) : Up p n cs := ⟨fun c hc => u.1 c (h.mem hc), u.2.sublist h⟩
theorem Up.part {p n : Nat} {cs : List Code} (pr : Pr p) (u : Up p n cs) : PartOk p n cs := by
  have hp : 0 < p := Nat.lt_of_lt_of_le (by decide) pr.two
  have at' : ∀ (k : Nat) (c : Code), cs[k + 1]? = some c → ∃ b, cs[k]? = some b ∧ b.length < c.length ∧ ∀ r, Sp p n b r → Sp p n c r := fun k c h => by
    have hl := (List.getElem?_eq_some_iff.mp h).1
    have e : cs[k + 1] = c := (List.getElem?_eq_some_iff.mp h).2
    have := List.pairwise_iff_getElem.mp u.2 k (k + 1) (by omega) hl (by omega)
    rw [e] at this
    exact ⟨_, List.getElem?_eq_getElem (by omega), this⟩
  refine ⟨fun k c h => ?_, fun k c h => ?_⟩
  · obtain ⟨h1, h2, h3⟩ := u.1 c (List.mem_of_getElem? h)
    refine ⟨h1, ?_, h3⟩
    cases k with
    | zero => rw [prev_0]; exact h2
    | succ k =>
      obtain ⟨b, hb, lt, _⟩ := at' k c h
      rw [prev_s hb]
      exact lt
  · cases k with
    | zero => rw [prev_0]; rfl
    | succ k =>
      obtain ⟨b, hb, _, sb⟩ := at' k c h
      rw [prev_s hb, List.all_eq_true]
      intro r hr
      refine decide_eq_true ?_
      exact sp_in hp (u.1 c (List.mem_of_getElem? h)).1.ech (sb r (.mem hp (u.1 b (List.mem_of_getElem? hb)).1.ok hr))
theorem flag_up {p n : Nat} (pr : Pr p) {cs : List Code} (o : FlagOk p n cs) : Up p n cs := by
  have fl := flag_whole pr o
  have lc := o.len
  have mono : ∀ (d i : Nat), i + d ≤ n → ∀ r, Sp p n (wholeM n cs i) r → Sp p n (wholeM n cs (i + d)) r := fun d => by
    induction d with
    | zero => exact fun i _ r h => h
    | succ d ih => exact fun i hi r h => fl.sub (i + d) (by omega) r (ih i (by omega) r h)
  have at' : ∀ i, (h : i < cs.length) → cs[i] = wholeM n cs (i + 1) := fun i h => by
    have := whole_mid o (show 0 < i + 1 by omega) (by omega)
    rw [Nat.add_sub_cancel, List.getElem?_eq_getElem h] at this
    exact Option.some.inj this
  refine ⟨fun c hc => ?_, List.pairwise_iff_getElem.mpr fun i j hi hj hij => ?_⟩
  · obtain ⟨i, hi⟩ := List.mem_iff_getElem?.mp hc
    obtain ⟨h1, h2⟩ := o.code i c hi
    have := (List.getElem?_eq_some_iff.mp hi).1
    exact ⟨h1, by omega, by omega⟩
  · have h1 := (o.code i _ (List.getElem?_eq_getElem hi)).2
    have h2 := (o.code j _ (List.getElem?_eq_getElem hj)).2
    refine ⟨by omega, fun r hr => ?_⟩
    rw [at' i hi] at hr
    rw [at' j hj]
    have := mono (j - i) (i + 1) (by omega) r hr
    rwa [show i + 1 + (j - i) = j + 1 by omega] at this
theorem made_sub {α : Type} {B : α → Bool → Prop} {h : α → Dt} : ∀ {xs : List α} {ds : List Dt}, Made B (fun x d => d = h x) xs ds → ∃ ys : List α, ys.Sublist xs ∧ ds = ys.map h
  | _, _, .nil => ⟨[], .refl _, rfl⟩
  | _, _, .skip m _ => by
    obtain ⟨ys, h1, h2⟩ := made_sub m
    exact ⟨ys, h1.trans (List.sublist_append_left _ _), h2⟩
  | _, _, .take (x := x) m _ e => by
    obtain ⟨ys, h1, h2⟩ := made_sub m
    exact ⟨ys ++ [x], h1.append (.refl _), by rw [h2, e, List.map_append]; rfl⟩
def sp__law_part (K : PySem.W.Frag) (G : Ads) : Sp := spS K (α := Nat × Nat) (fun a => [grD G a.1 a.2]) (fun a => SmP a.1 ∧ a.2 ≤ 100) (fun a d => ∃ cs : List Code, d = csD cs ∧ PartOk a.1 a.2 cs)
def sp__law_tops (K : PySem.W.Frag) (G : Ads) : Sp := spP K (α := (Nat × Nat) × List Code) (fun a => [grD G a.1.1 a.1.2, csD a.2]) (fun a => a.1.2 ≤ 200 ∧ a.2.length ≤ 1000) (fun a d => .lst ((wholeL a.1.2 a.2).map codeD) = d)
def sp__law_cross (K : PySem.W.Frag) (G : Ads) : Sp := spP K (α := (Nat × Nat) × List Code × List Code) (fun a => [grD G a.1.1 a.1.2, csD a.2.1, csD a.2.2]) (fun a => Gd a.1.1 a.1.2 ∧ PartOk a.1.1 a.1.2 a.2.1 ∧ PartOk a.1.1 a.1.2 a.2.2)
  (fun a d => tabD (tabM a.1.1 a.1.2 (wholeL a.1.2 a.2.1) (wholeL a.1.2 a.2.2)) = d)
def sp__law_near_pair (K : PySem.W.Frag) (G : Ads) : Sp := spS K (α := Nat × Nat) (fun a => [grD G a.1 a.2]) (fun a => SmP a.1 ∧ a.2 ≤ 100) (fun a d => ∃ cs ds : List Code, d = .lst [csD cs, csD ds] ∧ PartOk a.1 a.2 cs ∧ PartOk a.1 a.2 ds)
section
variable {P : Program} {w : World} {K : PySem.W.Frag} {mg : Str → Option Value} {base : Heap} {G : Ads} {f : Addr} {fd : FuncData}
variable {Z : Zn} {H0 : Hp} {L : Own} {Γ : Gam} {W : Hp → Addr → Prop} {E : XK} {t ta tk : TA} {te t1 t2 : TE} {p n m : Nat} {d e : Dt} {cs ds : List Code} {i j : Nat} {σ : L2.St} {H : Hp} {D : Ends} {tz : TS}
theorem ev_ltops [Wd K Z L W] (h : EVA K Z H0 L Γ (wW Z) t (Eq [grD G p n, csD cs])) (hn : n ≤ 200) (hl : cs.length ≤ 1000) : EV K Z H0 L Γ W (tCall (sp__law_tops K G) [] E t) (Eq (.lst ((wholeL n cs).map codeD))) := ev_call (x := ((p, n), cs)) h ⟨hn, hl⟩
theorem ev_lcross [Wd K Z L W] (h : EVA K Z H0 L Γ (wW Z) t (Eq [grD G p n, csD cs, csD ds])) (g : Gd p n) (o : PartOk p n cs) (o2 : PartOk p n ds) : EV K Z H0 L Γ W (tCall (sp__law_cross K G) [] E t) (Eq (tabD (tabM p n (wholeL n cs) (wholeL n ds)))) := ev_call (x := ((p, n), cs, ds)) h ⟨g, o, o2⟩
/-- a, b, c = d, e, [] -/
theorem q_asgT3 (a : At K Z H0 L Γ σ H) (h1 : EV K Z H0 L Γ (wS Z L) t1 (Eq d)) (h2 : EV K Z H0 L Γ (wS Z L) t2 (Eq e)) (k : ∀ l σ' H', H0 l = none → At K Z H0 ((l, []) :: L) (((Γ.set i (some d)).set j (some e)).set m (some (.raw (.ref l)))) σ' H' → tz D σ' H') :
    tSeq (tAsg (tTup (tCons t1 (tCons t2 (tCons (tLst tNil) tNil)))) (gTup K 3 (gCons (gName i) (gCons (gName j) (gCons (gName m) gNil))))) tz D σ H :=
  h1 σ H a _ fun d1 v1 H1 p1 g1 j1 x1 => by
    subst p1
    have a1 := a.step g1 j1
    refine h2 σ H1 a1 _ fun d2 v2 H2 p2 g2 j2 x2 => ?_
    subst p2
    have a2 := ((a1.step g2 j2).set (i := i) (x1.mono (g2.weak fun b m => .inl m))).set (i := j) x2
    refine ⟨by show 0 ≤ sizeLine; exact Nat.zero_le _, fun l hl => ?_⟩
    obtain ⟨g3, j3⟩ := a2.ex (Ex.new (p := l) (o := .lst []) hl)
    have a3 := a2.own_new (ds := []) g3 j3 hl upd_same .nil inferInstance
    refine ⟨show 3 ≤ sizeLine by decide, fun T hT => ⟨T, [v1, v2, .ref l], rfl, SqT.of upd_same, rfl, v1, [v2, .ref l], rfl, v2, [.ref l], rfl, .ref l, [], rfl, rfl, ?_⟩⟩
    obtain ⟨g4, j4⟩ := a3.ex (Ex.new (p := T) (o := .tup [v1, v2, .ref l]) hT)
    exact k l _ _ (a2.base_none hl) ((a3.step g4 j4).set (i := m) (.raw _))
/-- the innermost own list is let go -/
theorem _root_.Ly.At.drop0 {q : Addr × List Dt} (a : At K Z H0 (q :: L) Γ σ H) (hq : H0 q.1 = none) : At K Z H0 L Γ σ H := by
  have w : ∀ b, Mt Z L b → Mt Z (q :: L) b := fun b m => m.elim .inl fun m => .inr (List.mem_cons_of_mem _ m)
  refine ⟨fun b o e m => a.go b o e fun m2 => ?_, a.j, fun r hr => ?_, ?_, a.len, fun i d h => ?_⟩
  · rcases m2 with m2 | m2
    · exact m (.inl m2)
    · rcases List.mem_cons.mp m2 with m2 | m2
      · rw [m2, hq] at e
        cases e
      · exact m (.inr m2)
  · obtain ⟨xs, h1, h2, h3⟩ := a.own r (List.mem_cons_of_mem _ hr)
    exact ⟨xs, h1, h2.weak w, h3⟩
  · have := a.nd
    rw [List.map_cons] at this
    exact (List.nodup_cons.mp this).2
  · obtain ⟨v, h1, h2⟩ := a.env i d h
    exact ⟨v, h1, h2.weak w⟩
end
section
variable {P : Program} {w : World} {K : PySem.W.Frag} {mg : Str → Option Value} {base : Heap} {G : Ads} {f : Addr} {fd : FuncData}
theorem sc__law_tops : FnScope ["_law_ground_here", "_law_codes_here"] ["_law_ground_here", "_law_codes_here"] (defScope (top 68)) := ⟨rfl, rfl, rfl, by decide +kernel, rfl, by decide +kernel, by decide +kernel⟩
theorem ok__law_tops (F : Df K "_law_tops" "_law_tops" (top 68) f fd) (T : Txt K mg G) (c__law_whole : Cl P w K mg base 2 "_law_whole" (sp__law_whole K G)) : FnOk P w K mg base CX0 3 f fd ["_law_ground_here", "_law_codes_here"] (sp__law_tops K G) := by
  have sc := sc__law_tops
  refine F.ok sc (fun vs H Q E h => spP_len h fun _ => rfl) (fun cdv A outer s H vs Q E hr h => ?_)
  refine ⟨_, PSs.nox (pss_cons (ps_ret (pe_cl c__law_whole hr (by decide) (by rfl) (pa_cons (pv 1) (pa_cons (pe_dget (hu_of hr) (pv 0) pe_str (fun _ _ => rfl)) pa_nil)))) pss_nil), ?_⟩
  obtain ⟨⟨⟨p, n⟩, cs⟩, ⟨hn, hl⟩, hargs, k⟩ := h
  have hn : n ≤ 200 := hn
  have hl : cs.length ≤ 1000 := hl
  have st : At K z0 H [] [some (grD G p n), some (csD cs)] (L2.start ["_law_ground_here", "_law_codes_here"] vs) H := at_beg hargs rfl rfl
  exact q_ret1 st (ev_lwhole (ea_cons (ev_varW rfl) (ea_cons (ev_dn (ev_varW rfl)) ea_nil)) (.tup _) hn hl) k
theorem sc__law_cross : FnScope ["_law_ground_here", "_law_ones", "_law_others", "_law_rows", "_law_columns", "_law_found", "_law_ranks", "_law_x", "_law_row", "_law_y", "_law_one", "_law_other"] ["_law_ground_here", "_law_ones", "_law_others"] (defScope (top 71)) := ⟨rfl, rfl, rfl, by decide +kernel, rfl, by decide +kernel, by decide +kernel⟩
theorem ok__law_cross (F : Df K "_law_cross" "_law_cross" (top 71) f fd) (T : Txt K mg G) (c__law_tops : Cl P w K mg base 3 "_law_tops" (sp__law_tops K G)) (c__law_joined : Cl P w K mg base 3 "_law_joined" (sp__law_joined K G)) : FnOk P w K mg base CX0 4 f fd ["_law_ground_here", "_law_ones", "_law_others"] (sp__law_cross K G) := by
  have sc := sc__law_cross
  refine F.ok sc (fun vs H Q E h => spP_len h fun _ => rfl) (fun cdv A outer s H vs Q E hr h => ?_)
  refine ⟨_, PSs.nox (pss_cons (ps_asg (pe_tup (pa_cons (pe_cl c__law_tops hr (by decide) (by rfl) (pa_cons (pv 0) (pa_cons (pv 1) pa_nil))) (pa_cons (pe_cl c__law_tops hr (by decide) (by rfl) (pa_cons (pv 0) (pa_cons (pv 2) pa_nil))) (pa_cons (pe_lst pa_nil) pa_nil)))) (x_tup (K := K) (n := 3) rfl (pgs_cons (pg_name (i := 3) sc.nd rfl (Or.inl rfl)) (pgs_cons (pg_name (i := 4) sc.nd rfl (Or.inr rfl)) (pgs_cons (pg_name (i := 5) sc.nd rfl (Or.inl rfl)) pgs_nil))))) (pss_cons (ps_setLc (i := 6) (own := [("_law_one", 10)]) rfl sc.nd rfl rfl (sw_true rfl rfl rfl (by decide +kernel)) (x_sq (K := K) (pv 3)) (blkOk_by (by kernel_rfl)) (fun _ _ _ _ _ => (pg_name (i := 10) sc.nd rfl (by first | exact Or.inl rfl | exact Or.inr rfl))) (fun _ _ _ _ _ => pts_nil) (fun _ _ _ _ _ => (pe_lc (own := [("_law_other", 11)]) rfl sc.nd (x_sq (K := K) (pv 4)) (blkOk_by (by kernel_rfl)) (fun _ _ _ _ _ => (pg_name (i := 11) sc.nd rfl (by first | exact Or.inl rfl | exact Or.inr rfl))) (fun _ _ _ _ _ => pts_nil) (fun _ _ _ _ _ => (pe_op op_sub (pe_op (x_add (K := K)) (pe_callB (x_len (K := K)) (by rfl) T.f_len PySem.boot_len (pa_cons (pv 10) pa_nil)) (pe_callB (x_len (K := K)) (by rfl) T.f_len PySem.boot_len (pa_cons (pv 11) pa_nil))) (pe_callB (x_len (K := K)) (by rfl) T.f_len PySem.boot_len (pa_cons (pe_cl c__law_joined hr (by decide) (by rfl) (pa_cons (pe_dget (hu_of hr) (pv 0) pe_str (fun _ _ => rfl)) (pa_cons (pv 10) (pa_cons (pv 11) pa_nil)))) pa_nil))))))) (pss_cons (ps_for PassesOwn.never rfl (pi_range2 (by rfl) T.f_range (pa_cons pe_int (pa_cons (pe_callB (x_len (K := K)) (by rfl) T.f_len PySem.boot_len (pa_cons (pv 3) pa_nil)) pa_nil))) (pg_name (i := 7) sc.nd rfl (Or.inl rfl)) (pss_cons (ps_set (i := 8) sc.nd rfl (Or.inl rfl) (pe_lst pa_nil)) (pss_cons (ps_for PassesOwn.never rfl (pi_range2 (by rfl) T.f_range (pa_cons pe_int (pa_cons (pe_callB (x_len (K := K)) (by rfl) T.f_len PySem.boot_len (pa_cons (pv 4) pa_nil)) pa_nil))) (pg_name (i := 9) sc.nd rfl (Or.inl rfl)) (pss_cons (ps_expr (x_bm (K := K) PySem.F.plainAttrs_list PySem.F.slot_list_append PySem.F.type_list_append mt_append (pv 8) (pa_cons (pe_op (x_add (K := K)) (pe_op op_sub (pe_op op_sub (pe_ix (x_ix (K := K)) (pe_ix (x_ix (K := K)) (pv 6) (pv 7) (fun _ _ => rfl)) (pv 9) (fun _ _ => rfl)) (pe_ix (x_ix (K := K)) (pe_ix (x_ix (K := K)) (pv 6) (pe_op op_sub (pv 7) pe_int) (fun _ _ => rfl)) (pv 9) (fun _ _ => rfl))) (pe_ix (x_ix (K := K)) (pe_ix (x_ix (K := K)) (pv 6) (pv 7) (fun _ _ => rfl)) (pe_op op_sub (pv 9) pe_int) (fun _ _ => rfl))) (pe_ix (x_ix (K := K)) (pe_ix (x_ix (K := K)) (pv 6) (pe_op op_sub (pv 7) pe_int) (fun _ _ => rfl)) (pe_op op_sub (pv 9) pe_int) (fun _ _ => rfl))) pa_nil))) pss_nil)) (pss_cons (ps_expr (x_bm (K := K) PySem.F.plainAttrs_list PySem.F.slot_list_append PySem.F.type_list_append mt_append (pv 5) (pa_cons (pe_callTy (x_tuple (K := K)) (by rfl) T.f_tuple (by decide +kernel) (pa_cons (pv 8) pa_nil)) pa_nil))) pss_nil)))) (pss_cons (ps_ret (pe_callTy (x_tuple (K := K)) (by rfl) T.f_tuple (by decide +kernel) (pa_cons (pv 5) pa_nil))) pss_nil)))), ?_⟩
  obtain ⟨⟨⟨p, n⟩, cs, ds⟩, ⟨g, o, o2⟩, hargs, k⟩ := h
  have g : Gd p n := g
  have o : PartOk p n cs := o
  have o2 : PartOk p n ds := o2
  have nle := g.nle
  have l1 := len_tops o
  have l2 := len_tops o2
  have sh1 := o.short
  have sh2 := o2.short
  have t1 : ∀ c ∈ wholeL n cs, Ech p n c ∧ c.length ≤ n := fun c => top_ok g.pr o
  have t2 : ∀ c ∈ wholeL n ds, Ech p n c ∧ c.length ≤ n := fun c => top_ok g.pr o2
  have st : At K z0 H [] [some (grD G p n), some (csD cs), some (csD ds), none, none, none, none, none, none, none, none, none] (L2.start ["_law_ground_here", "_law_ones", "_law_others", "_law_rows", "_law_columns", "_law_found", "_law_ranks", "_law_x", "_law_row", "_law_y", "_law_one", "_law_other"] vs) H := at_beg hargs rfl rfl
  refine q_asgT3 (i := 3) (j := 4) (m := 5) st (ev_ltops (ea_cons (ev_varW rfl) (ea_cons (ev_varW rfl) ea_nil)) nle (by omega)) (ev_ltops (ea_cons (ev_varW rfl) (ea_cons (ev_varW rfl) ea_nil)) nle (by omega)) fun l σ1 H1 nl s1 => ?_
  generalize hT : wholeL n cs = TT at s1 l1 t1
  generalize hU : wholeL n ds = U at s1 l2 t2
  refine q_asg s1 (P := Eq (.lst (TT.map fun a => lstD (U.map fun b => rk p n a b)))) (ev_lcM (xs := TT) (h := codeD) (is := [10]) (es := fun c => [codeD c]) (fn := fun a => lstD (U.map fun b => rk p n a b)) (it_lst (ev_var rfl)) (.inl fun _ => Iff.rfl) (by omega) (fun _ _ => gt_name) (by decide) fun a ha => EV.eq (ev_lcM (xs := U) (h := codeD) (is := [11]) (es := fun c => [codeD c]) (fn := fun b => .int (rk p n a b)) (it_lst (ev_var rfl)) (.inl fun _ => Iff.rfl) (by omega) (fun _ _ => gt_name) (by decide) fun b hb => ?_) (by show Dt.lst _ = Dt.lst _; rw [List.map_map]; rfl)) fun d pd σ2 H2 s2 => ?_
  · obtain ⟨a1, a2⟩ := t1 a ha
    obtain ⟨b1, b2⟩ := t2 b hb
    refine EV.eq (ev_op (ev_op (ev_cb (ea_cons (ev_varW rfl) ea_nil) (rc_len (.tup _))) (ev_cb (ea_cons (ev_varW rfl) ea_nil) (rc_len (.tup _))) rr_addI) (ev_cb (ea_cons (ev_ljoined (ea_cons (ev_dp (ev_varW rfl)) (ea_cons (ev_varW rfl) (ea_cons (ev_varW rfl) ea_nil))) g ⟨by omega, a1.ok⟩ ⟨by omega, b1.ok⟩) ea_nil) (rc_len (.tup _))) rr_sub) ?_
    rw [List.length_map, List.length_map, List.length_map]
    congr 1
    have := len_both g.pr a1 b1
    show (a.length : Int) + (b.length : Int) - ((joi p a b).length : Nat) = ((com p n a b).length : Nat)
    omega
  subst pd
  refine q_for (β := Unit) (I := fun _ i _ => True) (Lf := fun _ i _ => [(l, ((tabM p n TT U).take i).map rowD)]) (Γf := fun _ i _ => [some (grD G p n), some (csD cs), some (csD ds), some (.lst (TT.map codeD)), some (.lst (U.map codeD)), some (.raw (.ref l)), some (.lst (TT.map fun a => lstD (U.map fun b => rk p n a b))), none, none, none, none, none]) (is := [7]) (es := fun d => [d]) (PL := Eq (rngD 1 (TT.length - 1))) s2
    (fun σ H a R q => it_r2 (W := wF) (lo := 1) (hi := (TT.length : Nat)) (ea_cons ev_int (ea_cons (EV.eq (ev_cb (ea_cons (ev_varW rfl) ea_nil) (rc_len (.lst _))) (by rw [List.length_map])) ea_nil)) (by omega) σ H a R fun items J H1 G' Y pi => q items J H1 G' Y (by rw [← pi]; congr 1; omega)) (fun _ _ _ _ => gt_name) (fun _ _ _ => rfl) (fun _ _ => ⟨(), trivial, rfl, .keep (.keep (.keep (.keep (.keep (.keep (.keep (.keep (.keep (.keep (.keep (.keep .nil)))))))))))⟩) ?_ ?_
  · intro items pi i d _ hd _ H3 g3 σ3 H4 s3 N kN
    subst pi
    have hlt : i < TT.length - 1 := by
      have := (List.getElem?_eq_some_iff.mp hd).1
      rw [rngD_len] at this
      exact this
    rw [rngD_get hlt] at hd
    cases hd
    have ha : TT[i]? = some TT[i] := List.getElem?_eq_getElem (by omega)
    have hc : TT[i + 1]? = some TT[i + 1] := List.getElem?_eq_getElem (by omega)
    have hrow : (tabM p n TT U)[i]? = some (rowT p n TT[i] TT[i + 1] U) := by
      unfold tabM
      have hz : (TT.zip TT.tail)[i]? = some (TT[i], TT[i + 1]) := by rw [List.getElem?_zip_eq_some]; exact ⟨ha, by rw [List.getElem?_tail]; exact hc⟩
      rw [List.getElem?_map, hz]
      rfl
    have row : ∀ (a : Nat) (x : Code), TT[a]? = some x → ∀ z : Int, z = a → L2.atI (TT.map fun a => lstD (U.map fun b => rk p n a b)) z = some (lstD (U.map fun b => rk p n x b)) := fun a x ha z hz => ix_nat (by omega) (by
      subst hz
      rw [Int.toNat_natCast, List.getElem?_map, ha]
      rfl)
    have col : ∀ (x : Code) (b : Nat) (y : Code), U[b]? = some y → ∀ z : Int, z = b → L2.atI ((U.map fun b => rk p n x b).map Dt.int) z = some (.int (rk p n x y)) := fun x b y hb z hz => ix_nat (by omega) (by
      subst hz
      rw [Int.toNat_natCast, List.getElem?_map, List.getElem?_map, hb]
      rfl)
    refine q_own s3 (ds := []) (ev_lst ea_nil) inferInstance fun l2' σ4 H5 nl2 s4 => ?_
    refine q_for (β := Unit) (I := fun _ j _ => True) (Lf := fun _ j _ => [(l2', ((rowT p n TT[i] TT[i + 1] U).take j).map Dt.int), (l, ((tabM p n TT U).take i).map rowD)]) (Γf := fun _ j _ => [some (grD G p n), some (csD cs), some (csD ds), some (.lst (TT.map codeD)), some (.lst (U.map codeD)), some (.raw (.ref l)), some (.lst (TT.map fun a => lstD (U.map fun b => rk p n a b))), some (.int (1 + (i : Nat))), some (.raw (.ref l2')), none, none, none]) (is := [9]) (es := fun d => [d]) (PL := Eq (rngD 1 (U.length - 1))) s4
      (fun σ H a R q => it_r2 (W := wF) (lo := 1) (hi := (U.length : Nat)) (ea_cons ev_int (ea_cons (EV.eq (ev_cb (ea_cons (ev_varW rfl) ea_nil) (rc_len (.lst _))) (by rw [List.length_map])) ea_nil)) (by omega) σ H a R fun items J H1 G' Y pi => q items J H1 G' Y (by rw [← pi]; congr 1; omega)) (fun _ _ _ _ => gt_name) (fun _ _ _ => rfl) (fun _ _ => ⟨(), trivial, rfl, .keep (.keep (.keep (.keep (.keep (.keep (.keep (.keep (.keep (.keep (.keep (.keep .nil)))))))))))⟩) ?_ ?_
    · intro items pi j d _ hd _ H6 g6 σ5 H7 s5 N2 kN2
      subst pi
      have hlj : j < U.length - 1 := by
        have := (List.getElem?_eq_some_iff.mp hd).1
        rw [rngD_len] at this
        exact this
      rw [rngD_get hlj] at hd
      cases hd
      have hb : U[j]? = some U[j] := List.getElem?_eq_getElem (by omega)
      have hb2 : U[j + 1]? = some U[j + 1] := List.getElem?_eq_getElem (by omega)
      have hent : (rowT p n TT[i] TT[i + 1] U)[j]? = some ((rk p n TT[i + 1] U[j + 1] - rk p n TT[i] U[j + 1]) - (rk p n TT[i + 1] U[j] - rk p n TT[i] U[j])) := by
        unfold rowT
        have hz : (U.zip U.tail)[j]? = some (U[j], U[j + 1]) := by rw [List.getElem?_zip_eq_some]; exact ⟨hb, by rw [List.getElem?_tail]; exact hb2⟩
        rw [List.getElem?_map, hz]
        rfl
      refine q_append (n := 0) (l := l2') s5 rfl rfl inferInstance (by rw [List.length_map, List.length_take]; unfold rowT; rw [List.length_map, List.length_zip]; omega) (P := Eq (.int ((rk p n TT[i + 1] U[j + 1] - rk p n TT[i] U[j + 1]) - (rk p n TT[i + 1] U[j] - rk p n TT[i] U[j])))) (EV.eq (ev_op (ev_op (ev_op (ev_op (ev_ixW (ev_varW rfl) (ev_varW rfl) (row (i + 1) _ hc _ (by omega))) (ev_varW rfl) (rr_ixL (col _ (j + 1) _ hb2 _ (by omega)))) (ev_op (ev_ixW (ev_varW rfl) (ev_op (ev_varW rfl) ev_int rr_sub) (row i _ ha _ (by omega))) (ev_varW rfl) (rr_ixL (col _ (j + 1) _ hb2 _ (by omega)))) rr_sub) (ev_op (ev_ixW (ev_varW rfl) (ev_varW rfl) (row (i + 1) _ hc _ (by omega))) (ev_op (ev_varW rfl) ev_int rr_sub) (rr_ixL (col _ j _ hb _ (by omega)))) rr_sub) (ev_op (ev_ixW (ev_varW rfl) (ev_op (ev_varW rfl) ev_int rr_sub) (row i _ ha _ (by omega))) (ev_op (ev_varW rfl) ev_int rr_sub) (rr_ixL (col _ j _ hb _ (by omega)))) rr_addI) (by congr 1; omega)) (fun d q => q ▸ inferInstance) fun d pd σ6 H8 s6 => ?_
      subst pd
      refine q_next (kN2 () σ6 H8 trivial ?_)
      rw [List.take_add_one (i := j), hent, List.map_append]
      exact s6.less (.keep (.keep (.keep (.keep (.keep (.keep (.keep (.keep (.keep (.drop (.keep (.keep .nil))))))))))))
    · intro items pi _ _ σ5 H6 s5
      subst pi
      have el : (rowT p n TT[i] TT[i + 1] U).take (rngD 1 (U.length - 1)).length = rowT p n TT[i] TT[i + 1] U := List.take_of_length_le (by rw [rngD_len]; unfold rowT; rw [List.length_map, List.length_zip, List.length_tail]; omega)
      rw [el] at s5
      refine q_append (n := 1) (l := l) s5 rfl rfl inferInstance (by rw [List.length_map, List.length_take]; unfold tabM; rw [List.length_map, List.length_zip]; omega) (P := Eq (rowD (rowT p n TT[i] TT[i + 1] U))) (ev_cb (ea_cons (ev_own rfl (List.mem_cons_self ..)) ea_nil) (rc_tuple (.lst _))) (fun d q => q ▸ inferInstance) fun d pd σ6 H7 s6 => ?_
      subst pd
      refine q_next (kN () σ6 H7 trivial ?_)
      rw [List.take_add_one, hrow, List.map_append]
      exact (s6.drop0 nl2).less (.keep (.keep (.keep (.keep (.keep (.keep (.keep (.drop (.drop (.keep (.keep (.keep .nil))))))))))))
  · intro items pi _ _ σ3 H3 s3
    subst pi
    have hT2 := hT
    refine q_ret s3 (fun q hq => by rw [List.mem_singleton.mp hq]; exact nl) (P := Eq (tabD (tabM p n (wholeL n cs) (wholeL n ds)))) (EV.eq (ev_cb (ea_cons (ev_own rfl (List.mem_cons_self ..)) ea_nil) (rc_tuple (.lst _))) ?_) k
    show Dt.tup _ = Dt.tup _
    rw [hT, hU, List.take_of_length_le (by rw [rngD_len]; unfold tabM; rw [List.length_map, List.length_zip, List.length_tail]; omega)]
end
section
variable {P : Program} {w : World} {K : PySem.W.Frag} {mg : Str → Option Value} {base : Heap} {G : Ads} {f : Addr} {fd : FuncData}
variable {A C : Addr} {H0 : Hp} {L : Own} {Γ : Gam} {W : Hp → Addr → Prop} {E E2 : XK} {te : TE} {p n : Nat} {i : Nat}
theorem ev_lpart [Wd K (Zs A C) L W] (hi : Γ[i]? = some (some (.raw (.ref A)))) (h : EV K (Zs A C) H0 L Γ (wW (Zs A C)) te (Eq (grD G p n))) (hp : SmP p) (hn : n ≤ 100) : EV K (Zs A C) H0 L Γ W (tCall (sp__law_part K G) [] E (tCons (tVar i) (tCons te tNil))) (fun d => ∃ cs : List Code, d = csD cs ∧ PartOk p n cs) :=
  ev_callS hi (ea_cons h ea_nil) fun ds q => ⟨(p, n), q.symm, ⟨hp, hn⟩, fun d q => q⟩
theorem part_of_sub {p n : Nat} (pr : Pr p) {cs ys : List Code} (o : FlagOk p n cs) (h : ys.Sublist cs) : PartOk p n ys := ((flag_up pr o).sub h).part pr
/-- what a drawn choice of codes is -/
theorem rc_chosen {p n : Nat} (pr : Pr p) {cs : List Code} (o : FlagOk p n cs) {B : Code → Bool → Prop} {ds : List Dt} (m : Made B (fun x d => d = codeD x) cs ds) : RC K (fun xs H Q => ∃ p ys, xs = [.ref p] ∧ ((SqL K H p ys ∧ ∀ l, H l = none → Q (.ref l) (upd H l (.tup ys))) ∨ (SqT K H p ys ∧ Q (.ref p) H))) [.lst ds] (fun d => ∃ cs : List Code, d = csD cs ∧ PartOk p n cs) := by
  obtain ⟨ys, h1, rfl⟩ := made_sub m
  exact (rc_tuple (.lst _)).to fun d q => ⟨ys, q.symm, part_of_sub pr o h1⟩
end
section
variable {P : Program} {w : World} {K : PySem.W.Frag} {mg : Str → Option Value} {base : Heap} {G : Ads} {f : Addr} {fd : FuncData}
theorem sc__law_part : FnScope ["_law_source_here", "_law_ground_here", "_law_way", "_law_codes_here", "_law_code"] ["_law_source_here", "_law_ground_here"] (defScope (top 67)) := ⟨rfl, rfl, rfl, by decide +kernel, rfl, by decide +kernel, by decide +kernel⟩
theorem ok__law_part (F : Df K "_law_part" "_law_part" (top 67) f fd) (T : Txt K mg G) (c__law_codes : Cl P w K mg base 3 "_law_codes" (sp__law_codes K G)) (c__law_base : Cl P w K mg base 3 "_law_base" (sp__law_base K G)) (c__law_pick : Cl P w K mg base 1 "_law_pick" (sp__law_pick K G)) : FnOk P w K mg base CX0 4 f fd ["_law_source_here", "_law_ground_here"] (sp__law_part K G) := by
  have sc := sc__law_part
  refine F.ok sc (fun vs H Q E h => spS_len h fun _ => rfl) (fun cdv A outer s H vs Q E hr h => ?_)
  refine ⟨_, PSs.nox (pss_cons (ps_par (i := 2) (j := 3) (by rfl) sc.nd rfl rfl (by decide) rfl rfl (pa_cons (pe_cl c__law_pick hr (by decide) (by rfl) (pa_cons (pv 0) (pa_cons pe_int pa_nil))) (pa_cons (pe_cl c__law_codes hr (by decide) (by rfl) (pa_cons (pe_dget (hu_of hr) (pv 1) pe_str (fun _ _ => rfl)) (pa_cons (pe_cl c__law_base hr (by decide) (by rfl) (pa_cons (pv 0) (pa_cons (pv 1) pa_nil))) pa_nil))) pa_nil)) (by rfl)) (pss_cons (ps_if (pt_cmpR op_lt (pv 2) pe_int (nomark _)) (pss_cons (ps_ret (pe_callTy (x_tuple (K := K)) (by rfl) T.f_tuple (by decide +kernel) (pa_cons (pe_slice (x_sl (K := K)) (pv 3) po_none (po_some (pe_op (x_mulV (K := K)) (pe_callB (x_len (K := K)) (by rfl) T.f_len PySem.boot_len (pa_cons (pv 3) pa_nil)) (pv 2)))) pa_nil))) pss_nil) pss_nil) (pss_cons (ps_ret (pe_callTy (x_tuple (K := K)) (by rfl) T.f_tuple (by decide +kernel) (pa_cons (pe_lc (own := [("_law_code", 4)]) rfl sc.nd (x_sq (K := K) (pv 3)) (blkOk_by (by kernel_rfl)) (fun _ _ _ _ _ => (pg_name (i := 4) sc.nd rfl (by first | exact Or.inl rfl | exact Or.inr rfl))) (fun _ _ _ _ _ => (pts_one (pt_cmpR (x_eq (K := K) hr.units) (pe_cl c__law_pick hr (by decide) (by rfl) (pa_cons (pv 0) (pa_cons pe_int pa_nil))) pe_int (nomark _)))) (fun _ _ _ _ _ => (pv 4))) pa_nil))) pss_nil))), ?_⟩
  obtain ⟨⟨p, n⟩, A', C, ws, rfl, ⟨hp, hn⟩, hS, i0, k⟩ := h
  have hp : SmP p := hp
  have hn : n ≤ 100 := hn
  have g : Gd p n := hp.gd (by omega)
  have sb : At K (Zs A' C) H [] [some (.raw (.ref A')), some (grD G p n), none, none, none] (L2.start ["_law_source_here", "_law_ground_here", "_law_way", "_law_codes_here", "_law_code"] (V.ref A' :: ws)) H := at_begS (K := K) hS (.cons (.raw (.ref A')) i0) rfl rfl
  refine q_par sb (ea_consP (ev_pick (m := 8) rfl ev_int (by decide) (by decide)) fun _ _ => ea_consP (ev_lcodesP (ev_dp (ev_varW rfl)) (ev_lbase rfl (ev_varW rfl) hp hn) hp hn) fun _ _ => ea_nil) fun ds q => ?_
  obtain ⟨_, _, rfl, ⟨way, rfl, hw⟩, _, _, rfl, ⟨cs, rfl, fl⟩, rfl⟩ := q
  refine ⟨_, _, rfl, fun σ1 H1 s1 => ?_⟩
  have lc := fl.len
  refine q_if s1 (et_test (W := wF) (ev_op (ev_varW rfl) ev_int rr_lt)) (fun hit H2 s2 => ?_) fun _ H2 s2 => ?_
  · have hit := of_decide_eq_true hit
    refine qs_ret1 s2 ((ev_cb (ea_cons (EV.eq (e := .lst ((cs.take (cs.length * way)).map codeD)) (ev_slL (ev_varW rfl) eo_none (eo_some (W := wF) (i := ((cs.length * way : Nat) : Int)) (EV.eq (ev_op (ev_cb (ea_cons (ev_varW rfl) ea_nil) (rc_len (.lst _))) (ev_varW rfl) (rr_mulS ?_)) (by rw [List.length_map]; congr 1)))) (by rw [cutD_map, cut_to2])) ea_nil) (rc_tuple (.lst _))).to fun d q => ?_) k
    · rcases (show way = 0 ∨ way = 1 by omega) with z | z <;> subst z <;> decide
    · exact ⟨_, q.symm, part_of_sub g.pr fl (List.take_sublist _ _)⟩
  · refine q_next (qs_ret1 s2 (ev_cbP (ea_consP (ev_lcP (xs := cs) (h := codeD) (is := [4]) (es := fun c => [codeD c]) (B := fun _ _ => True) (Pe := fun x d => d = codeD x) (it_lst (N := Mt (Zs A' C) []) (ev_var rfl)) (.inl fun _ => Iff.rfl) (by omega) (fun _ _ => gt_name) (by decide) (fun x hx => ?_) fun x hx _ => (ev_var rfl).imm.to fun d q => q.symm) fun _ _ => ea_nil) fun ds q => ?_) k)
    · exact (et_testP (W := wF) (ev_opP (P2 := Eq (.int 0)) (ev_pick (m := 2) rfl ev_int (by decide) (by decide)) (fun _ _ => ev_int) (P := fun d => ∃ b, d = .bl b ∧ True) fun d e q z => by
        obtain ⟨w, rfl, _⟩ := q
        subst z
        exact rr_eqI.to fun d q => ⟨_, q.symm, trivial⟩))
    · obtain ⟨_, _, rfl, ⟨ds, rfl, m⟩, rfl⟩ := q
      exact rc_chosen g.pr fl m
end
end Wk
end
section
set_option Elab.async false
set_option linter.all false
set_option maxRecDepth 100000
set_option maxHeartbeats 4000000
set_option autoImplicit false
namespace Wk
open PySem L2 Ly Mx
section
variable {P : Program} {w : World} {K : PySem.W.Frag} {mg : Str → Option Value} {base : Heap} {G : Ads} {f : Addr} {fd : FuncData}
variable {Z : Zn} {A C : Addr} {H0 : Hp} {L : Own} {Γ : Gam} {W : Hp → Addr → Prop} {E E2 : XK} {t : TA} {te : TE} {tt tu : TT} {PL : List Dt → Prop} {p n : Nat} {i i2 i3 : Nat} {base' : Code} {o : List Nat} {q : Addr}
theorem ev_lstP [w : Wd K Z L W] (h : EVA K Z H0 L Γ W t PL) (hl : ∀ ds, PL ds → ds.length ≤ 100000) : EV K Z H0 L Γ W (tLst t) (fun d => ∃ ds, d = .lst ds ∧ PL ds) := fun σ H a Q k =>
  h σ H a _ fun ds vs H1 p g j i => ⟨by rw [← i.length]; exact Nat.le_trans (hl ds p) (by decide), fun q hq => by
    have a1 := a.step g j
    obtain ⟨g2, j2⟩ := a1.ex (Ex.new (p := q) (o := .lst vs) hq)
    exact k _ _ _ ⟨ds, rfl, p⟩ (g.trans g2) j2 (.lst upd_same (fun m => absurd hq (w.hi a1 (w.up a g j m))) (i.mono (g2.weak fun b m => w.lo a m)))⟩
theorem et_orT {P1 P2 : Bool → Prop} (h1 : EVT K Z H0 L Γ tt P1) (h2 : EVT K Z H0 L Γ tu P2) : EVT K Z H0 L Γ (tOr tt tu) (fun _ => True) := fun σ H a Q k =>
  h1 σ H a _ fun b' H1 p g j => by
    cases b' with
    | true =>
      show Q true H1
      exact k true H1 trivial g j
    | false =>
      show tu σ H1 Q
      exact h2 σ H1 (a.step g j) _ fun c H2 p2 g2 j2 => k c H2 trivial (g.trans g2) j2
/-- the second sequence of an order that stands in a slot -/
theorem ev_secondF [w : Wd K Z L W] (hb : Γ[i2]? = some (some (.lst (base'.map rowD)))) (hq : Γ[i3]? = some (some (.raw (.ref q)))) (hF : TupF H0 q ((o.map fun i : Nat => (i : Int)).map V.int)) (so : SecOk base' o) :
    EV K Z H0 L Γ W (tCall (sp__law_second K G) [] E (tCons (tVar i2) (tCons (tVar i3) tNil))) (Eq (.lst ((secondM base' o).map rowD))) := fun σ H a Q k => by
  obtain ⟨v, e1, e2⟩ := a.env i2 _ hb
  obtain ⟨v3, e3, e4⟩ := a.env i3 _ hq
  cases e4
  refine ⟨v, e1, _, e3, base', o, q, v, rfl, so, e2.weak fun _ m => m.elim, hF.gm a.go, fun d w2 H3 pd e3 i3 => ?_⟩
  exact fin_ex a (Gm.refl H) a.j e3 i3 pd k
end
section
variable {P : Program} {w : World} {K : PySem.W.Frag} {mg : Str → Option Value} {base : Heap} {G : Ads} {f : Addr} {fd : FuncData}
theorem sc__law_near_pair : FnScope ["_law_source_here", "_law_ground_here", "_law_base_here", "_law_order", "_law_found", "_law_rows", "_law_codes_here", "_law_way", "_law_code"] ["_law_source_here", "_law_ground_here"] (defScope (top 72)) := ⟨rfl, rfl, rfl, by decide +kernel, rfl, by decide +kernel, by decide +kernel⟩
theorem ok__law_near_pair (F : Df K "_law_near_pair" "_law_near_pair" (top 72) f fd) (T : Txt K mg G) (c__law_pick : Cl P w K mg base 1 "_law_pick" (sp__law_pick K G)) (c__law_part : Cl P w K mg base 4 "_law_part" (sp__law_part K G)) (c__law_any_order : Cl P w K mg base 3 "_law_any_order" (sp__law_any_order K G)) (c__law_base : Cl P w K mg base 3 "_law_base" (sp__law_base K G)) (c__law_second : Cl P w K mg base 1 "_law_second" (sp__law_second K G)) (c__law_codes : Cl P w K mg base 3 "_law_codes" (sp__law_codes K G)) : FnOk P w K mg base CX0 5 f fd ["_law_source_here", "_law_ground_here"] (sp__law_near_pair K G) := by
  have sc := sc__law_near_pair
  refine F.ok sc (fun vs H Q E h => spS_len h fun _ => rfl) (fun cdv A outer s H vs Q E hr h => ?_)
  refine ⟨_, PSs.nox (pss_cons (ps_if (pt_cmpR (x_eq (K := K) hr.units) (pe_cl c__law_pick hr (by decide) (by rfl) (pa_cons (pv 0) (pa_cons pe_int pa_nil))) pe_int (nomark _)) (pss_cons (ps_ret (pe_lst (pa_cons (pe_cl c__law_part hr (by decide) (by rfl) (pa_cons (pv 0) (pa_cons (pv 1) pa_nil))) (pa_cons (pe_cl c__law_part hr (by decide) (by rfl) (pa_cons (pv 0) (pa_cons (pv 1) pa_nil))) pa_nil)))) pss_nil) pss_nil) (pss_cons (ps_par (i := 2) (j := 3) (by rfl) sc.nd rfl rfl (by decide) rfl rfl (pa_cons (pe_cl c__law_base hr (by decide) (by rfl) (pa_cons (pv 0) (pa_cons (pv 1) pa_nil))) (pa_cons (pe_cl c__law_any_order hr (by decide) (by rfl) (pa_cons (pv 0) (pa_cons (pe_dget (hu_of hr) (pv 1) pe_str (fun _ _ => rfl)) pa_nil))) pa_nil)) (by rfl)) (pss_cons (ps_set (i := 4) sc.nd rfl (Or.inl rfl) (pe_lst pa_nil)) (pss_cons (ps_for PassesOwn.never rfl (x_sq (K := K) (pe_tup (pa_cons (pv 2) (pa_cons (pe_cl c__law_second hr (by decide) (by rfl) (pa_cons (pv 2) (pa_cons (pv 3) pa_nil))) pa_nil)))) (pg_name (i := 5) sc.nd rfl (Or.inl rfl)) (pss_cons (ps_asg (pe_tup (pa_cons (pe_cl c__law_codes hr (by decide) (by rfl) (pa_cons (pe_dget (hu_of hr) (pv 1) pe_str (fun _ _ => rfl)) (pa_cons (pv 5) pa_nil))) (pa_cons (pe_cl c__law_pick hr (by decide) (by rfl) (pa_cons (pv 0) (pa_cons pe_int pa_nil))) pa_nil))) (x_tup (K := K) (n := 2) rfl (pgs_cons (pg_name (i := 6) sc.nd rfl (Or.inl rfl)) (pgs_cons (pg_name (i := 7) sc.nd rfl (Or.inr rfl)) pgs_nil)))) (pss_cons (ps_expr (x_bm (K := K) PySem.F.plainAttrs_list PySem.F.slot_list_append PySem.F.type_list_append mt_append (pv 4) (pa_cons (pe_callTy (x_tuple (K := K)) (by rfl) T.f_tuple (by decide +kernel) (pa_cons (pe_lc (own := [("_law_code", 8)]) rfl sc.nd (x_sq (K := K) (pv 6)) (blkOk_by (by kernel_rfl)) (fun _ _ _ _ _ => (pg_name (i := 8) sc.nd rfl (by first | exact Or.inl rfl | exact Or.inr rfl))) (fun _ _ _ _ _ => (pts_one (PW.pt (pw_or (pt_cmpR (x_eq (K := K) hr.units) (pv 7) pe_int (nomark _)) (pw_or1 (pt_cmpR op_gt (pe_cl c__law_pick hr (by decide) (by rfl) (pa_cons (pv 0) (pa_cons pe_int pa_nil))) pe_int (nomark _))))))) (fun _ _ _ _ _ => (pv 8))) pa_nil)) pa_nil))) pss_nil))) (pss_cons (ps_ret (pv 4)) pss_nil))))), ?_⟩
  obtain ⟨⟨p, n⟩, A', C, ws, rfl, ⟨hp, hn⟩, hS, i0, k⟩ := h
  have hp : SmP p := hp
  have hn : n ≤ 100 := hn
  have g : Gd p n := hp.gd (by omega)
  have sb : At K (Zs A' C) H [] [some (.raw (.ref A')), some (grD G p n), none, none, none, none, none, none, none] (L2.start ["_law_source_here", "_law_ground_here", "_law_base_here", "_law_order", "_law_found", "_law_rows", "_law_codes_here", "_law_way", "_law_code"] (V.ref A' :: ws)) H := at_begS (K := K) hS (.cons (.raw (.ref A')) i0) rfl rfl
  refine q_if (B := fun _ => True) sb (et_testP (W := wF) (ev_opP (P2 := Eq (.int 0)) (ev_pick (m := 3) rfl ev_int (by decide) (by decide)) (fun _ _ => ev_int) (P := fun d => ∃ b, d = .bl b ∧ True) fun d e q z => by
        obtain ⟨w, rfl, _⟩ := q
        subst z
        exact rr_eqI.to fun d q => ⟨_, q.symm, trivial⟩)) (fun _ H2 s2 => ?_) fun _ H2 s2 => ?_
  · refine qs_ret1 s2 ((ev_lstP (ea_consP (ev_lpart rfl (ev_varW rfl) hp hn) fun _ _ => ea_consP (ev_lpart rfl (ev_varW rfl) hp hn) fun _ _ => ea_nil) fun ds q => ?_).to fun d q => ?_) k
    · obtain ⟨_, _, rfl, _, _, _, rfl, _, rfl⟩ := q
      exact Nat.le_of_ble_eq_true rfl
    · obtain ⟨_, rfl, _, _, rfl, ⟨cs, rfl, o1⟩, _, _, rfl, ⟨ds, rfl, o2⟩, rfl⟩ := q
      exact ⟨cs, ds, rfl, o1, o2⟩
  refine ev_lbase (W := wW (Zs A' C)) rfl (ev_varW rfl) hp hn _ _ s2 _ fun d v H3 pd g1 j1 i1 => ?_
  obtain ⟨base, rfl, bs⟩ := pd
  have s3 := s2.step g1 j1
  refine ⟨_, rfl, ev_dn (W := wF) (ev_varW rfl) _ _ s3 _ fun d x H4 p2 g2 j2 i2 => ?_⟩
  subst p2
  cases i2
  refine ⟨A', C, n, rfl, by omega, j2, fun q o H5 po hF g3 j3 => ?_⟩
  refine ⟨_, _, rfl, ?_⟩
  have lo : o.length = n := by rw [po.length_eq, List.length_range]
  have s5 := (((s3.step g2 j2).step g3 j3).set (i := 2) ((i1.mono (g2.trans g3)).weak fun b m => m.elim id fun q => nomatch q)).set (i := 3) (d := .raw (.ref q)) (v := .ref q) (.raw _)
  have b2 := bs.perm (second_perm (base := base) (o := o) (by rw [bs.len]; exact po))
  have so : SecOk base o := ⟨by rw [bs.len, lo], by omega, fun j hj => po.mem_iff.mpr (List.mem_range.mpr (by omega))⟩
  refine q_own s5.here (ds := []) (ev_lst ea_nil) inferInstance fun l σ6 H6 nl s6 => ?_
  have nl0 : H l = none := s5.base_none nl
  refine q_for (β := List (List Code)) (I := fun _ i css => css.length = i ∧ ∀ cs ∈ css, PartOk p n cs) (Lf := fun _ _ css => [(l, css.map csD)]) (Γf := fun _ _ _ => [some (.raw (.ref A')), some (grD G p n), some (.lst (base.map rowD)), some (.raw (.ref q)), some (.raw (.ref l)), none, none, none, none]) (is := [5]) (es := fun d => [d]) (PL := Eq [Dt.lst (base.map rowD), Dt.lst ((secondM base o).map rowD)]) s6
    (it_tup (ev_tup (ea_cons (ev_var rfl) (ea_cons (ev_secondF rfl rfl hF so) ea_nil)))) (fun _ _ _ _ => gt_name) (fun _ _ _ => rfl) (fun _ _ => ⟨[], ⟨rfl, fun _ h => nomatch h⟩, rfl, .keep (.keep (.keep (.keep (.keep (.keep (.keep (.keep (.keep .nil))))))))⟩) ?_ ?_
  · intro items pi i d css hd hi H7 g7 σ7 H8 s7 N kN
    subst pi
    obtain ⟨b, rfl, bb⟩ : ∃ b : Code, d = .lst (b.map rowD) ∧ Bs p n b := by
      rcases List.mem_cons.mp (List.mem_of_getElem? hd) with z | z
      · exact ⟨base, z, bs⟩
      · exact ⟨_, List.mem_singleton.mp z, b2⟩
    refine q_asgT (P := fun d => ∃ (cs : List Code) (way : Nat), d = .tup [.lst (cs.map codeD), .int way] ∧ FlagOk p n cs) (is := [6, 7]) (es := fun d => match d with | .tup [a, b] => [a, b] | _ => [.non, .non]) s7 ((ev_tupP (ea_consP (ev_lcodes (ea_cons (ev_dp (ev_varW rfl)) (ea_cons (ev_varW rfl) ea_nil)) g (rows_bs bb (by omega))) fun _ _ => ea_consP (ev_pick (m := 3) rfl ev_int (by decide) (by decide)) fun _ _ => ea_nil) fun ds q => ?_).to fun d q => ?_) (fun d q => ?_) fun d pd σ8 H9 s8 => ?_
    · obtain ⟨_, _, rfl, _, _, _, rfl, _, rfl⟩ := q
      exact Nat.le_of_ble_eq_true rfl
    · obtain ⟨_, rfl, _, _, rfl, rfl, _, _, rfl, ⟨way, rfl, _⟩, rfl⟩ := q
      exact ⟨codesM p b, way, rfl, flag_bs hp.pr bb⟩
    · obtain ⟨cs, way, rfl, _⟩ := q
      exact gt_tup2
    obtain ⟨cs, way, rfl, fl⟩ := pd
    have lc := fl.len
    refine q_append (n := 0) (l := l) s8 rfl rfl inferInstance (by rw [List.length_map, hi.1]; have := (List.getElem?_eq_some_iff.mp hd).1; simp at this; omega) (P := fun d => ∃ cs : List Code, d = csD cs ∧ PartOk p n cs) (ev_cbP (ea_consP (ev_lcP (xs := cs) (h := codeD) (is := [8]) (es := fun c => [codeD c]) (B := fun _ _ => True) (Pe := fun x d => d = codeD x) (it_lst (N := Mt (Zs A' C) [(l, css.map csD)]) (ev_var rfl)) (.inl fun _ => Iff.rfl) (by omega) (fun _ _ => gt_name) (by decide) (fun x hx => ?_) fun x hx _ => (ev_var rfl).imm.to fun d q => q.symm) fun _ _ => ea_nil) fun ds q => ?_) (fun d q => by obtain ⟨_, rfl, _⟩ := q; exact inferInstance) fun d pd σ9 H10 s9 => ?_
    · exact et_orT (et_test (W := wF) (ev_op (ev_varW rfl) ev_int rr_eqI)) (et_testP (W := wF) (ev_opP (P2 := Eq (.int 0)) (ev_pick (m := 3) rfl ev_int (by decide) (by decide)) (fun _ _ => ev_int) (P := fun d => ∃ b, d = .bl b ∧ True) fun d e q z => by
        obtain ⟨w, rfl, _⟩ := q
        subst z
        exact rr_gt.to fun d q => ⟨_, q.symm, trivial⟩))
    · obtain ⟨_, _, rfl, ⟨ds, rfl, m⟩, rfl⟩ := q
      exact rc_chosen g.pr fl m
    obtain ⟨ys, rfl, po2⟩ := pd
    refine q_next (kN (css ++ [ys]) σ9 H10 ⟨by rw [List.length_append, hi.1]; rfl, fun c hc => ?_⟩ ?_)
    · rcases List.mem_append.mp hc with z | z
      · exact hi.2 c z
      · rw [List.mem_singleton.mp z]; exact po2
    · have e1 : css.map csD ++ [csD ys] = (css ++ [ys]).map csD := by rw [List.map_append]; rfl
      have s9 : At K (Zs A' C) H7 [(l, (css ++ [ys]).map csD)] _ _ H10 := e1 ▸ s9
      exact s9.less (.keep (.keep (.keep (.keep (.keep (.drop (.drop (.drop (.keep .nil)))))))))
  · intro items pi css hi σ7 H7 s7
    subst pi
    have hl2 : css.length = 2 := hi.1
    match css, hl2, hi, s7 with
    | [cs, ds], _, hi, s7 =>
      refine qs_retOwn (s7.base (s5.go.weak fun b m => m.elim .inl fun m => nomatch m)) (fun q hq => by rw [List.mem_singleton.mp hq]; exact nl0) rfl (List.mem_singleton.mpr rfl) fun d v H' pd => k d v H' ⟨cs, ds, pd.symm, hi.2 cs (by simp), hi.2 ds (by simp)⟩
end
end Wk
end
section
set_option Elab.async false
set_option linter.all false
set_option maxRecDepth 100000
set_option maxHeartbeats 4000000
set_option autoImplicit false
namespace Wk
open PySem L2 Ly Mx
/-! ### what cross tables are -/
theorem com_len_of {p n : Nat} (pr : Pr p) {u v w : Code} (eu : Ech p n u) (ev : Ech p n v) (ew : Ech p n w) (h : ∀ r, (Sp p n u r ∧ Sp p n v r) ↔ Sp p n w r) : rk p n u v = (w.length : Nat) := by
  show ((com p n u v).length : Int) = _
  rw [len_same pr.two (ech_com pr eu.ok ev.ok) ew fun r => (sp_com pr eu.ok ev.ok).trans (h r)]
theorem rk_comm {p n : Nat} (pr : Pr p) {u v : Code} (eu : Ech p n u) (ev : Ech p n v) : rk p n u v = rk p n v u := by
  refine com_len_of pr eu ev (ech_com pr ev.ok eu.ok) fun r => ?_
  show _ ↔ Sp p n (com p n v u) r
  rw [sp_com pr ev.ok eu.ok]
  exact ⟨fun q => ⟨q.2, q.1⟩, fun q => ⟨q.2, q.1⟩⟩
/-- no entry is below nought -/
theorem entry_ge {p n : Nat} (pr : Pr p) {a b c d : Code} (ea : Ech p n a) (eb : Ech p n b) (ec : Ech p n c) (ed : Ech p n d) (hab : ∀ r, Sp p n a r → Sp p n b r) (hcd : ∀ r, Sp p n c r → Sp p n d r) : 0 ≤ (rk p n b d - rk p n a d) - (rk p n b c - rk p n a c) := by
  have hp : 0 < p := Nat.lt_of_lt_of_le (by decide) pr.two
  have e1 := ech_com pr ea.ok ed.ok
  have e2 := ech_com pr eb.ok ec.ok
  have e3 := ech_com pr eb.ok ed.ok
  have h1 := len_both pr e1 e2
  have h2 : ((com p n (com p n a d) (com p n b c)).length : Int) = rk p n a c := by
    refine com_len_of pr e1 e2 (ech_com pr ea.ok ec.ok) fun r => ?_
    show _ ↔ Sp p n (com p n a c) r
    rw [sp_com pr ea.ok ed.ok, sp_com pr eb.ok ec.ok, sp_com pr ea.ok ec.ok]
    exact ⟨fun q => ⟨q.1.1, q.2.2⟩, fun q => ⟨⟨q.1, hcd r q.2⟩, hab r q.1, q.2⟩⟩
  have h3 : (joi p (com p n a d) (com p n b c)).length ≤ (com p n b d).length := by
    refine len_le pr.two (ech_joi pr e1.ok e2.ok) e3.ok fun r hr => ?_
    obtain ⟨x, y, hx, hy, rfl⟩ := (sp_joi pr e1.ok e2.ok).mp hr
    rw [sp_com pr ea.ok ed.ok] at hx
    rw [sp_com pr eb.ok ec.ok] at hy
    rw [sp_com pr eb.ok ed.ok]
    exact ⟨(hab x hx.1).plus hp eb.ok hy.1 1, hx.2.plus hp ed.ok (hcd y hy.2) 1⟩
  have h4 : rk p n b d = ((com p n b d).length : Nat) := rfl
  have h5 : rk p n a d = ((com p n a d).length : Nat) := rfl
  have h6 : rk p n b c = ((com p n b c).length : Nat) := rfl
  omega
theorem sum_steps (f : Code → Int) : ∀ (u : Code) (U : List Code), (((u :: U).zip U).map fun q => f q.2 - f q.1).sum = f (U.getLastD u) - f u
  | u, [] => by simp
  | u, v :: U => by
    rw [List.zip_cons_cons, List.map_cons, List.sum_cons, sum_steps f v U, List.getLastD_cons]
    show (f v - f u) + _ = _
    omega
theorem whole_last {n : Nat} {cs : List Code} (h : 0 < n) : (wholeL n cs).tail.getLastD [] = unitsM n := by
  have : (wholeL n cs).tail = cs ++ [unitsM n] := by unfold wholeL; rw [if_pos h]; rfl
  rw [this]
  exact List.getLastD_concat
theorem rk_units {p n : Nat} (pr : Pr p) {a : Code} (ea : Ech p n a) : rk p n a (unitsM n) = (a.length : Nat) := by
  have hu := un_units (p := p) (n := n) pr.two
  have hp : 0 < p := Nat.lt_of_lt_of_le (by decide) pr.two
  exact com_len_of pr ea hu.ech ea fun r => ⟨fun q => q.1, fun q => ⟨q, (hu.bs pr.two).all r (q.ok hp ea.ok)⟩⟩
theorem rk_nil' {p n : Nat} (pr : Pr p) {a : Code} (ea : Ech p n a) : rk p n a [] = 0 := by
  have en : Ech p n [] := ⟨fun _ h => (nomatch h), fun _ h => (nomatch h), .nil⟩
  rw [rk_comm pr ea en]
  exact rk_nil pr ea
theorem row_sum {p n : Nat} (pr : Pr p) {cs ds : List Code} (o : PartOk p n cs) {q : Code × Code} (h : q ∈ (wholeL n cs).zip (wholeL n cs).tail) : (rowT p n q.1 q.2 (wholeL n ds)).sum = ((q.2.length - q.1.length : Nat) : Int) := by
  obtain ⟨lt, _, ⟨e1, l1⟩, ⟨e2, l2⟩⟩ := step_ok pr o h
  have hn : 0 < n := by omega
  have hs := sum_steps (fun y => rk p n q.2 y - rk p n q.1 y) [] (wholeL n ds).tail
  have hw : wholeL n ds = [] :: (wholeL n ds).tail := rfl
  unfold rowT
  have hs : (((wholeL n ds).zip (wholeL n ds).tail).map fun z => (rk p n q.2 z.2 - rk p n q.1 z.2) - (rk p n q.2 z.1 - rk p n q.1 z.1)).sum = _ := hs
  rw [hs, whole_last hn]
  rw [rk_units pr e1, rk_units pr e2, rk_nil' pr e1, rk_nil' pr e2]
  omega
theorem sums_tab {p n : Nat} (pr : Pr p) {cs ds : List Code} (o : PartOk p n cs) : (tabM p n (wholeL n cs) (wholeL n ds)).map List.sum = (blocksM n cs).map fun i : Nat => (i : Int) := by
  unfold tabM blocksM
  rw [List.map_map, List.map_map]
  exact List.map_congr_left fun q hq => row_sum pr o hq
theorem tab_ge {p n : Nat} (pr : Pr p) {cs ds : List Code} (o : PartOk p n cs) (o2 : PartOk p n ds) {row : List Int} (hr : row ∈ tabM p n (wholeL n cs) (wholeL n ds)) {x : Int} (hx : x ∈ row) : 0 ≤ x := by
  unfold tabM at hr
  obtain ⟨s, hs, rfl⟩ := List.mem_map.mp hr
  unfold rowT at hx
  obtain ⟨q, hq, rfl⟩ := List.mem_map.mp hx
  obtain ⟨_, h1, ⟨e1, _⟩, ⟨e2, _⟩⟩ := step_ok pr o hs
  obtain ⟨_, h2, ⟨e3, _⟩, ⟨e4, _⟩⟩ := step_ok pr o2 hq
  exact entry_ge pr e1 e2 e3 e4 h1 h2
theorem row_ne {p n : Nat} (pr : Pr p) {cs ds : List Code} (o : PartOk p n cs) {row : List Int} (hr : row ∈ tabM p n (wholeL n cs) (wholeL n ds)) : row ≠ [] := by
  unfold tabM at hr
  obtain ⟨s, hs, rfl⟩ := List.mem_map.mp hr
  have hh := row_sum (ds := ds) pr o hs
  have lt := (step_ok pr o hs).1
  intro z
  rw [z] at hh
  simp at hh
  omega
theorem tab_flip {p n : Nat} (pr : Pr p) {cs ds : List Code} (o : PartOk p n cs) (o2 : PartOk p n ds) : tabM p n (wholeL n ds) (wholeL n cs) = (List.range (blocksM n ds).length).map fun y => (tabM p n (wholeL n cs) (wholeL n ds)).map fun row => row.getD y 0 := by
  have lb : (blocksM n ds).length = ((wholeL n ds).zip (wholeL n ds).tail).length := by unfold blocksM; rw [List.length_map]
  refine List.ext_getElem? fun y => ?_
  conv => lhs; unfold tabM
  rw [List.getElem?_map, List.getElem?_map]
  by_cases q : y < (blocksM n ds).length
  · rw [List.getElem?_range q, List.getElem?_eq_getElem (show y < ((wholeL n ds).zip (wholeL n ds).tail).length by omega)]
    have hm : ((wholeL n ds).zip (wholeL n ds).tail)[y]'(by omega) ∈ (wholeL n ds).zip (wholeL n ds).tail := List.getElem_mem _
    refine congrArg some (?_ : rowT p n _ _ (wholeL n cs) = ((((wholeL n cs).zip (wholeL n cs).tail).map fun s => rowT p n s.1 s.2 (wholeL n ds)).map fun row => row.getD y 0))
    rw [List.map_map]
    conv => lhs; unfold rowT
    refine List.map_congr_left fun s hs => ?_
    obtain ⟨_, _, ⟨e1, _⟩, ⟨e2, _⟩⟩ := step_ok pr o hs
    obtain ⟨_, _, ⟨e3, _⟩, ⟨e4, _⟩⟩ := step_ok pr o2 hm
    show _ = (rowT p n s.1 s.2 (wholeL n ds)).getD y 0
    unfold rowT
    rw [List.getD_eq_getElem?_getD, List.getElem?_map, List.getElem?_eq_getElem (show y < ((wholeL n ds).zip (wholeL n ds).tail).length by omega)]
    show _ = (rk p n s.2 _ - rk p n s.1 _) - (rk p n s.2 _ - rk p n s.1 _)
    rw [rk_comm pr e2 e4, rk_comm pr e1 e4, rk_comm pr e2 e3, rk_comm pr e1 e3]
    omega
  · rw [List.getElem?_eq_none (show ((wholeL n ds).zip (wholeL n ds).tail).length ≤ y by omega), List.getElem?_eq_none (show (List.range (blocksM n ds).length).length ≤ y by rw [List.length_range]; omega)]
    rfl
/-- how many of the first i go below j -/
def cnt (n : Nat) (o : List Nat) (i j : Nat) : Nat := (List.range n).countP fun a => decide (a < i) && decide (ordN o a < j)
theorem cnt_step {n : Nat} {o : List Nat} {i j : Nat} (hi : i < n) : cnt n o (i + 1) j = cnt n o i j + if ordN o i < j then 1 else 0 := by
  unfold cnt
  rw [countP_one (P := fun a => decide (a < i + 1) && decide (ordN o a < j)) (Q := fun a => decide (a < i) && decide (ordN o a < j)) (k := i) (fun a ha => by
    have : (decide (a < i + 1)) = decide (a < i) := decide_eq_decide.mpr (by omega)
    simp only [this]) (by simp) List.nodup_range (List.mem_range.mpr hi)]
  congr 1
  simp
theorem rk_cnt {p n : Nat} (pr : Pr p) {b : Code} (bs : Bs p n b) {o : List Nat} (po : o.Perm (List.range n)) {i j : Nat} (hi : i ≤ n) (hj : j ≤ n) : rk p n (wholeM n (codesM p b) i) (wholeM n (codesM p (secondM b o)) j) = (cnt n o i j : Nat) := by
  have o1 := flag_whole pr (flag_bs pr bs)
  have o2 := flag_whole pr (flag_bs pr (bs.perm (second_perm (base := b) (o := o) (by rw [bs.len]; exact po))))
  have h1 := len_both pr (o1.ech i hi) (o2.ech j hj)
  rw [len_joi_bases pr bs po hi hj, o1.len i hi, o2.len j hj] at h1
  have h2 := countP_or (P := fun a => decide (a < i)) (Q := fun a => decide (ordN o a < j)) (List.range n)
  rw [countP_lt n i hi, countP_ord po hj] at h2
  show ((com p n _ _).length : Int) = _
  unfold cnt
  omega
theorem whole_list {p n : Nat} {cs : List Code} (o : FlagOk p n cs) : wholeL n cs = (List.range (n + 1)).map (wholeM n cs) := by
  refine List.ext_getElem? fun i => ?_
  by_cases q : i ≤ n
  · rw [whole_at o.len q, List.getElem?_map, List.getElem?_range (by omega)]
    rfl
  · rw [List.getElem?_eq_none (by rw [len_wholeL, o.len]; split <;> omega), List.getElem?_eq_none (by rw [List.length_map, List.length_range]; omega)]
theorem range_steps {α : Type} (f : Nat → α) (n : Nat) : ((List.range (n + 1)).map f).zip ((List.range (n + 1)).map f).tail = (List.range n).map fun i => (f i, f (i + 1)) := by
  refine List.ext_getElem? fun i => ?_
  by_cases q : i < n
  · have h1 : (((List.range (n + 1)).map f).zip ((List.range (n + 1)).map f).tail)[i]? = some (f i, f (i + 1)) := by
      rw [List.getElem?_zip_eq_some]
      refine ⟨by rw [List.getElem?_map, List.getElem?_range (by omega)]; rfl, ?_⟩
      rw [List.getElem?_tail, List.getElem?_map, List.getElem?_range (by omega)]
      rfl
    rw [h1, List.getElem?_map, List.getElem?_range q]
    rfl
  · rw [List.getElem?_eq_none (by rw [List.length_zip, List.length_tail, List.length_map, List.length_range]; omega), List.getElem?_eq_none (by rw [List.length_map, List.length_range]; omega)]
theorem tab_order {p n : Nat} (pr : Pr p) {b : Code} (bs : Bs p n b) {o : List Nat} (po : o.Perm (List.range n)) : tabM p n (wholeL n (codesM p b)) (wholeL n (codesM p (secondM b o))) = (List.range n).map fun i => (List.range n).map fun j => if ordN o i = j then 1 else 0 := by
  have o1 := flag_bs pr bs
  have o2 := flag_bs pr (bs.perm (second_perm (base := b) (o := o) (by rw [bs.len]; exact po)))
  unfold tabM
  rw [whole_list o1, range_steps, List.map_map]
  refine List.map_congr_left fun i hi => ?_
  have hi := List.mem_range.mp hi
  show rowT p n _ _ _ = _
  unfold rowT
  rw [whole_list o2, range_steps, List.map_map]
  refine List.map_congr_left fun j hj => ?_
  have hj := List.mem_range.mp hj
  show (rk p n _ _ - rk p n _ _) - (rk p n _ _ - rk p n _ _) = _
  rw [rk_cnt pr bs po (by omega) (by omega), rk_cnt pr bs po (by omega) (by omega), rk_cnt pr bs po (by omega) (by omega), rk_cnt pr bs po (by omega) (by omega), cnt_step hi, cnt_step hi]
  split <;> split <;> split <;> omega
theorem second_id {b : Code} : secondM b (List.range b.length) = b := by
  unfold secondM
  rw [List.length_range]
  refine (List.map_congr_left fun j hj => ?_).trans (getD_map (c := b) rfl)
  have hj := List.mem_range.mp hj
  congr 1
  have hx := (List.nodup_range (n := b.length)).idxOf_getElem j (by rw [List.length_range]; exact hj)
  rw [List.getElem_range] at hx
  exact hx
theorem tab_self {p n : Nat} (pr : Pr p) {b : Code} (bs : Bs p n b) : tabM p n (wholeL n (codesM p b)) (wholeL n (codesM p b)) = unitsM n := by
  have h := tab_order pr bs (o := List.range b.length) (by rw [bs.len])
  rw [second_id] at h
  rw [h]
  unfold unitsM
  refine List.map_congr_left fun i hi => ?_
  have hi := List.mem_range.mp hi
  unfold unitM
  refine List.map_congr_left fun j hj => ?_
  have e : ordN (List.range b.length) i = i := by
    unfold ordN
    rw [List.getD_eq_getElem?_getD, List.getElem?_range (by rw [bs.len]; exact hi)]
    rfl
  rw [e]
end Wk
end
section
set_option Elab.async false
set_option linter.all false
set_option maxRecDepth 100000
set_option maxHeartbeats 4000000
set_option autoImplicit false
namespace Wk
open PySem L2 Ly Mx
/-! ### the law -/
abbrev QL : Str := (("law" : Str) ++ ".<locals>.") ++ "<lambda>"
abbrev TL (Pt : Addr) : List (Addr × Str) := [(Pt, QL)]
def sp_law (K : PySem.W.Frag) (_ : Ads) (Pt : Addr) : Sp := fun vs H Q _ => ∃ (a : Addr) (ns : List Int), vs = [.ref a] ∧ SqL K H a (ns.map V.int) ∧ ns.length ≤ 63 ∧ H Pt = some (.tbl #[]) ∧ ∀ H', Q (.bl true) H'
theorem at_toS {K : PySem.W.Frag} {A C : Addr} {H0 H : Hp} {Γ : Gam} {σ : L2.St} (a : At K z0 H0 [] Γ σ H) (j : Src A C H) (hI : ∀ (i : Nat) (d : Dt), Γ[i]? = some (some d) → Imm d) : At K (Zs A C) H [] Γ σ H :=
  ⟨Gm.refl H, j, (fun _ q => nomatch q), List.nodup_nil, a.len, fun i d h => by
    obtain ⟨v, e1, e2⟩ := a.env i d h
    exact ⟨v, e1, (hI i d h).any _ _ _ _ _ e2⟩⟩
theorem imm_first {d0 : Dt} [Imm d0] (m : Nat) : ∀ (i : Nat) (d : Dt), (some d0 :: List.replicate m none)[i]? = some (some d) → Imm d
  | 0, d, h => by cases h; assumption
  | i + 1, d, h => by
    rw [List.getElem?_cons_succ, List.getElem?_replicate] at h
    split at h <;> cases h
theorem src_kind {A C : Addr} {H : Hp} (j : Src A C H) : ∀ b o, H b = some o → Mt (Zs A C) [] b → (∃ vs, o = .lst vs) ∨ ∃ kvs, o = .dK kvs := fun b o e m => by
  obtain ⟨n, cells, l, mm, t, h1, h2⟩ := j
  rcases m with m | m
  · rcases m with m | m
    · subst m
      rw [h1] at e
      cases e
      exact .inr ⟨_, rfl⟩
    · subst m
      rw [h2] at e
      cases e
      exact .inl ⟨_, rfl⟩
  · cases m
section
variable {X : Cx} {K : PySem.W.Frag} {es : List Expr} {k : Nat} {gs : TGs} {pos : Pos}
theorem x_lst2 (hg : PGs X es gs) (hc : X.calm = true := by rfl) (h : X.K = K := by rfl) (hn : (assignEach es X.env).length = 2 := by rfl) (hst : (assignEach es X.env).findIdx? (·.1) = none := by rfl) : PG X (.Tuple es k pos) (gLst K 2 gs) := h ▸ pg_lst hc hg hn hst
theorem x_minL (hc : X.calm = true := by rfl) (h : X.K = K := by rfl) : CallR X (.builtin "min") (rMin K) := h ▸ cr_min hc
theorem gt_lst2 {i j : Nat} {d e : Dt} : GT K (gLst K 2 (gCons (gName i) (gCons (gName j) gNil))) [i, j] (.lst [d, e]) [d, e] := ⟨rfl, fun M H v h => by
  cases h with
  | lst hq _ l =>
    cases l with
    | cons h1 l =>
      cases l with
      | cons h2 l =>
        cases l
        exact ⟨_, .cons h1 (.cons h2 .nil), fun σ Q q => ⟨_, _, rfl, SqL.of hq, rfl, _, _, rfl, _, _, rfl, rfl, q⟩⟩⟩
variable {A C : Addr} {H0 H : Hp} {Γ : Gam} {σ : L2.St} {D : Ends} {tz ts : TS} {CS Pt : Addr} {α : Type} {args : α → List Dt} {pre : α → Prop} {ta : TA}
/-- if not told(lambda: call): .. , the call refused -/
theorem q_unl (a : At K (Zs A C) H0 [] Γ σ H) (hT : LamX.Tabs (TL Pt) H) (exU : PySem.W.exmOne K (.ref CS) (.ref CS) = some true) (x : α) (h : ∀ H0, EVA K (Zs A C) H0 [] Γ (wW (Zs A C)) ta (Eq (args x))) (hp : pre x) (k : ∀ H', At K (Zs A C) H' [] Γ σ H' → LamX.Tabs (TL Pt) H' → tz D σ H') :
    tSeq (tIfS (tNot (tTest (LamX.tLam (TL Pt) (TUnl K CS) (fun E => tCallS (spR K CS args pre) (WE fun cls d _ H => E cls d H) ta)))) ts tNext) tz D σ H := by
  refine ⟨hT, fun H1 e1 hT1 => ?_⟩
  have a1 := a.extN e1 (srcN e1 a.j)
  refine h H1 σ H1 a1 _ fun ds vs H2 p g j i => ?_
  subst p
  refine ⟨x, hp, i.weak fun _ q => q.elim, fun H' ex => ?_⟩
  have a2 := a1.step g j
  obtain ⟨g3, j3⟩ := a2.ex ex
  have a3 := a2.step g3 j3
  exact ⟨true, exU, fun _ => ⟨true, rfl, k H' a3.here (Tabs.gm hT1 a3.go (src_kind a1.j))⟩, fun z => nomatch z⟩
end
/-! what repr asks of a table -/
theorem rk_le {p n : Nat} (pr : Pr p) {a b : Code} (ea : Ech p n a) (eb : Ech p n b) : 0 ≤ rk p n a b ∧ rk p n a b ≤ (a.length : Nat) := by
  refine ⟨Int.natCast_nonneg _, ?_⟩
  have := len_le (c := com p n a b) pr.two (ech_com pr ea.ok eb.ok) ea.ok fun r hr => ((sp_com pr ea.ok eb.ok).mp hr).1
  show ((com p n a b).length : Int) ≤ _
  omega
structure SmT (t : List (List Int)) : Prop where
  len : t.length ≤ 200
  row : ∀ r ∈ t, r.length ≤ 200
  ent : ∀ r ∈ t, ∀ x ∈ r, x.natAbs < 1000
theorem sm_tab {p n : Nat} (pr : Pr p) (hn : n ≤ 100) {cs ds : List Code} (o : PartOk p n cs) (o2 : PartOk p n ds) : SmT (tabM p n (wholeL n cs) (wholeL n ds)) := by
  have l1 := len_tops o
  have l2 := len_tops o2
  refine ⟨by unfold tabM; rw [List.length_map, List.length_zip]; omega, fun r hr => ?_, fun r hr x hx => ?_⟩
  · unfold tabM at hr
    obtain ⟨s, hs, rfl⟩ := List.mem_map.mp hr
    unfold rowT
    rw [List.length_map, List.length_zip]
    omega
  · unfold tabM at hr
    obtain ⟨s, hs, rfl⟩ := List.mem_map.mp hr
    unfold rowT at hx
    obtain ⟨q, hq, rfl⟩ := List.mem_map.mp hx
    obtain ⟨_, _, ⟨e1, b1⟩, ⟨e2, b2⟩⟩ := step_ok pr o hs
    obtain ⟨_, _, ⟨e3, b3⟩, ⟨e4, b4⟩⟩ := step_ok pr o2 hq
    have h1 := rk_le pr e2 e4
    have h2 := rk_le pr e1 e4
    have h3 := rk_le pr e2 e3
    have h4 := rk_le pr e1 e3
    omega
theorem pdL_map {α : Type} (f : α → Dt) : ∀ l : List α, pdL (l.map f) = l.map fun x => (f x).pd
  | [] => rfl
  | x :: l => by
    show (f x).pd :: pdL (l.map f) = _
    rw [pdL_map f l]
    rfl
theorem piled_le {B : Nat} : ∀ {ts : List Str}, (∀ t ∈ ts, t.length ≤ B) → PySem.piled ts ≤ ts.length * (B + 2)
  | [], _ => by simp [PySem.piled]
  | t :: ts, h => by
    rw [PySem.piled_cons, List.length_cons, Nat.succ_mul]
    have h1 := h t List.mem_cons_self
    have h2 := piled_le (B := B) (ts := ts) fun x hx => h x (List.mem_cons_of_mem _ hx)
    omega
theorem shownAll_map : ∀ l : List PyData, PyData.shownAll l = l.map PyData.shown
  | [] => by simp only [PyData.shownAll, List.map_nil]
  | x :: l => by simp only [PyData.shownAll, List.map_cons, shownAll_map l]
theorem shown_row {r : List Int} (h : r.length ≤ 200) (hx : ∀ x ∈ r, x.natAbs < 1000) : (rowD r).pd.shown.length ≤ 3010 := by
  have e : (rowD r).pd = .tuple (r.map PyData.int) := by
    show PyData.tuple (pdL (r.map Dt.int)) = _
    rw [pdL_map]
    rfl
  rw [e]
  simp only [PyData.shown, shownAll_map, List.map_map]
  have h1 := fmt_text (r.map (PyData.shown ∘ PyData.int))
  have h2 := piled_le (B := 13) (ts := r.map (PyData.shown ∘ PyData.int)) fun t ht => by
    obtain ⟨x, hm, rfl⟩ := List.mem_map.mp ht
    exact PyData.shown_int_le (Nat.lt_trans (hx x hm) (by decide))
  rw [List.length_map] at h2
  omega
theorem shown_tab {t : List (List Int)} (s : SmT t) : (tabD t).pd.shown.length ≤ sizeLine := by
  have e : (tabD t).pd = .tuple (t.map fun r => (rowD r).pd) := by
    show PyData.tuple (pdL (t.map rowD)) = _
    rw [pdL_map]
  rw [e]
  simp only [PyData.shown, shownAll_map, List.map_map]
  have h1 := fmt_text (t.map (PyData.shown ∘ fun r => (rowD r).pd))
  have h2 := piled_le (B := 3010) (ts := t.map (PyData.shown ∘ fun r => (rowD r).pd)) fun x hx => by
    obtain ⟨r, hm, rfl⟩ := List.mem_map.mp hx
    exact shown_row (s.row r hm) (s.ent r hm)
  rw [List.length_map] at h2
  have h3 := s.len
  rw [sizeLine_eq]
  have h4 : t.length * (3010 + 2) ≤ 200 * (3010 + 2) := Nat.mul_le_mul_right _ h3
  omega
theorem showAll_of {l : List PyData} (h : ∀ d ∈ l, d.showable = true) : PyData.showableAll l = true := by
  induction l with
  | nil => simp only [PyData.showableAll]
  | cons x l ih =>
    simp only [PyData.showableAll, Bool.and_eq_true]
    exact ⟨h x List.mem_cons_self, ih fun d hd => h d (List.mem_cons_of_mem _ hd)⟩
theorem noDictAll {l : List PyData} (h : ∀ d ∈ l, d.hasDict = false) : PyData.hasDictAll l = false := by
  induction l with
  | nil => simp only [PyData.hasDictAll]
  | cons x l ih =>
    simp only [PyData.hasDictAll, Bool.or_eq_false_iff]
    exact ⟨h x List.mem_cons_self, ih fun d hd => h d (List.mem_cons_of_mem _ hd)⟩
theorem depthAll_le {B : Nat} {l : List PyData} (h : ∀ d ∈ l, d.depth ≤ B) : PyData.depthAll l ≤ B := by
  induction l with
  | nil => simp only [PyData.depthAll]; exact Nat.zero_le _
  | cons x l ih =>
    simp only [PyData.depthAll]
    exact Nat.max_le.mpr ⟨h x List.mem_cons_self, ih fun d hd => h d (List.mem_cons_of_mem _ hd)⟩
theorem rc_tab {K : PySem.W.Frag} {t : List (List Int)} (s : SmT t) : RC K (rReprD K) [tabD t] (Eq (.str (tabD t).pd.shown)) := by
  have er : ∀ r : List Int, (rowD r).pd = .tuple (r.map PyData.int) := fun r => by
    show PyData.tuple (pdL (r.map Dt.int)) = _
    rw [pdL_map]
    rfl
  have e : (tabD t).pd = .tuple (t.map fun r => (rowD r).pd) := by
    show PyData.tuple (pdL (t.map rowD)) = _
    rw [pdL_map]
  refine rc_reprD rfl (enc_code1.ok t) ?_ ?_ ?_ (shown_tab s)
  · rw [e]
    simp only [PyData.showable]
    refine showAll_of fun d hd => ?_
    obtain ⟨r, hr, rfl⟩ := List.mem_map.mp hd
    rw [er]
    simp only [PyData.showable]
    refine showAll_of fun d hd => ?_
    obtain ⟨x, hx, rfl⟩ := List.mem_map.mp hd
    simp only [PyData.showable]
    have := s.ent r hr x hx
    refine decide_eq_true ?_
    by_cases z : x.natAbs = 0
    · rw [z]; decide
    · exact Nat.lt_trans ((Nat.log2_lt z).mpr (Nat.lt_trans this (by decide : 1000 < 2 ^ 10))) (by decide)
  · rw [e]
    simp only [PyData.hasDict]
    refine noDictAll fun d hd => ?_
    obtain ⟨r, hr, rfl⟩ := List.mem_map.mp hd
    rw [er]
    simp only [PyData.hasDict]
    refine noDictAll fun d hd => ?_
    obtain ⟨x, hx, rfl⟩ := List.mem_map.mp hd
    simp only [PyData.hasDict]
  · rw [e]
    simp only [PyData.depth]
    refine Nat.succ_le_succ (m := 63) (depthAll_le fun d hd => ?_)
    obtain ⟨r, hr, rfl⟩ := List.mem_map.mp hd
    rw [er]
    simp only [PyData.depth]
    refine Nat.succ_le_succ (m := 62) (depthAll_le fun d hd => ?_)
    obtain ⟨x, hx, rfl⟩ := List.mem_map.mp hd
    simp only [PyData.depth]
    exact Nat.zero_le _
def sp__law_far (K : PySem.W.Frag) (G : Ads) : Sp := spP K (α := Nat × Nat) (fun a => [grD G a.1 a.2]) (fun a => SmP a.1 ∧ a.2 ≤ 100) (fun a d => ∃ q m : Nat, d = gr G q m ∧ Gd q m ∧ (q, m) ≠ (a.1, a.2))
section
variable {P : Program} {w : World} {K : PySem.W.Frag} {mg : Str → Option Value} {base : Heap} {G : Ads} {f : Addr} {fd : FuncData}
theorem sc__law_far : FnScope ["_law_ground_here"] ["_law_ground_here"] (defScope (top 69)) := ⟨rfl, rfl, rfl, by decide +kernel, rfl, by decide +kernel, by decide +kernel⟩
theorem ok__law_far (F : Df K "_law_far" "_law_far" (top 69) f fd) (T : Txt K mg G) (c_Ground__init_ : Ma P w K mg base 3 "Ground" G.Ground (sp_Ground__init_ K G)) : FnOk P w K mg base CX0 5 f fd ["_law_ground_here"] (sp__law_far K G) := by
  have sc := sc__law_far
  refine F.ok sc (fun vs H Q E h => spP_len h fun _ => rfl) (fun cdv A outer s H vs Q E hr h => ?_)
  refine ⟨_, PSs.nox (pss_cons (ps_if (pt_cmpR (x_eq (K := K) hr.units) (pe_op op_mod (pe_callTy x_int (by rfl) T.f_int (by decide +kernel) (pa_cons (pe_dget (hu_of hr) (pv 0) pe_str (fun _ _ => rfl)) pa_nil)) pe_int) pe_int (nomark _)) (pss_cons (ps_ret (pe_ma c_Ground__init_ hr (by decide) (by rfl) (pa_cons (pe_dget2 (hu_of hr) (pe_disp (pps_cons pe_int pe_int pps_nil) (by rfl) (by rfl) (fun z => by cases z) (by decide)) (pe_dget (hu_of hr) (pv 0) pe_str (fun _ _ => rfl)) pe_int ⟨by rfl, by rfl, by rfl, by rfl⟩) (pa_cons (pe_dget (hu_of hr) (pv 0) pe_str (fun _ _ => rfl)) pa_nil)))) pss_nil) pss_nil) (pss_cons (ps_ret (pe_ma c_Ground__init_ hr (by decide) (by rfl) (pa_cons (pe_dget (hu_of hr) (pv 0) pe_str (fun _ _ => rfl)) (pa_cons (pe_op op_sub (pe_dget (hu_of hr) (pv 0) pe_str (fun _ _ => rfl)) pe_int) pa_nil)))) pss_nil)), ?_⟩
  obtain ⟨⟨p, n⟩, ⟨hp, hn⟩, hargs, k⟩ := h
  have hp : SmP p := hp
  have hn : n ≤ 100 := hn
  have st : At K z0 H [] [some (grD G p n)] (L2.start ["_law_ground_here"] vs) H := at_beg hargs rfl rfl
  refine q_if st (EVT.eq (c := decide ((n : Int) % 2 = 0)) (et_test (W := wF) (ev_op (ev_op (ev_cb (ea_cons (ev_dn (ev_varW rfl)) ea_nil) rc_intI) ev_int (rr_mod (by decide))) ev_int rr_eqI)) rfl) (fun h0 H1 s1 => ?_) fun h0 H1 s1 => ?_
  · have hq : SmP (if p = 2 then 3 else 2) := by
      by_cases z : p = 2
      · rw [if_pos z]; exact .inr (.inl rfl)
      · rw [if_neg z]; exact .inl rfl
    refine q_ret1 s1 (ev_makeP (P := fun d => ∃ q m : Nat, d = gr G q m ∧ Gd q m ∧ (q, m) ≠ (p, n)) (PL := Eq [.int ((if p = 2 then 3 else 2 : Nat) : Int), .int n]) (ea_cons (EV.eq (ev_get23 ev_int ev_int (ev_dp (ev_varW rfl)) ev_int) ?_) (ea_cons (ev_dn (ev_varW rfl)) ea_nil)) fun ds q => ?_) k
    · congr 1
      by_cases z : p = 2
      · subst z; rfl
      · rw [if_neg z, if_neg (by omega)]; rfl
    · exact ⟨(if p = 2 then 3 else 2, n), q.symm, hq.gr (by omega), _, _, rfl, hq.gd (by omega), fun z => by
        have : (if p = 2 then 3 else 2) = p := congrArg Prod.fst z
        split at this <;> omega⟩
  · have h0 := of_decide_eq_false h0
    refine q_next (q_ret1 s1 (ev_makeP (P := fun d => ∃ q m : Nat, d = gr G q m ∧ Gd q m ∧ (q, m) ≠ (p, n)) (PL := Eq [.int p, .int ((n - 1 : Nat) : Int)]) (ea_cons (ev_dp (ev_varW rfl)) (ea_cons (EV.eq (ev_op (ev_dn (ev_varW rfl)) ev_int rr_sub) (by congr 1; omega)) ea_nil)) fun ds q => ?_) k)
    exact ⟨(p, n - 1), q.symm, hp.gr (by omega), _, _, rfl, hp.gd (by omega), fun z => by
      have : n - 1 = n := congrArg Prod.snd z
      omega⟩
end
end Wk
end
section
set_option Elab.async false
set_option linter.all false
set_option maxRecDepth 100000
set_option maxHeartbeats 4000000
set_option autoImplicit false
namespace Wk
open PySem L2 Ly Mx
theorem sums_rows {t : List (List Int)} : ∀ {bl : List Nat}, t.map List.sum = bl.map (fun i : Nat => (i : Int)) → lstD (t.map List.sum) = Dt.lst (bl.map fun i => .int (i : Nat)) := fun {bl} h => by
  rw [h]
  show Dt.lst _ = Dt.lst _
  rw [List.map_map]
  rfl
section
variable {P : Program} {w : World} {K : PySem.W.Frag} {mg : Str → Option Value} {base : Heap} {G : Ads} {f : Addr} {fd : FuncData}
theorem ev_lfar {Z : Zn} {H0 : Hp} {L : Own} {Γ : Gam} {W : Hp → Addr → Prop} {E : XK} {t : TA} {p n : Nat} [Wd K Z L W] (h : EVA K Z H0 L Γ (wW Z) t (Eq [grD G p n])) (hp : SmP p) (hn : n ≤ 100) : EV K Z H0 L Γ W (tCall (sp__law_far K G) [] E t) (fun d => ∃ q m : Nat, d = gr G q m ∧ Gd q m ∧ (q, m) ≠ (p, n)) := ev_call (x := (p, n)) h ⟨hp, hn⟩
end
theorem made_mins {xs : List (List Int)} {ds : List Dt} (h : ∀ r ∈ xs, ∀ x ∈ r, (0 : Int) ≤ x) (m : Made (fun _ b => b = true) (fun (r : List Int) d => ∃ m : Int, d = .int m ∧ m ∈ r) xs ds) : ∃ ms : List Int, ds = ms.map Dt.int ∧ ∀ m ∈ ms, 0 ≤ m := by
  induction m with
  | nil => exact ⟨[], rfl, fun _ h => nomatch h⟩
  | skip m b => exact nomatch b
  | take m _ q ih =>
    rename_i x d xs ds _
    obtain ⟨ms, h1, h2⟩ := ih fun r hr => h r (List.mem_append_left _ hr)
    obtain ⟨z, rfl, hz⟩ := q
    refine ⟨ms ++ [z], by rw [h1, List.map_append]; rfl, fun y hy => ?_⟩
    rcases List.mem_append.mp hy with q | q
    · exact h2 y q
    · rw [List.mem_singleton.mp q]
      exact h x (List.mem_append_right _ (List.mem_singleton.mpr rfl)) z hz
section
variable {P : Program} {w : World} {K : PySem.W.Frag} {mg : Str → Option Value} {base : Heap} {G : Ads} {f : Addr} {fd : FuncData}
theorem body_law (T : Txt K mg G) (c__law_source : Cl P w K mg base 1 "_law_source" (sp__law_source K G)) (c__law_any_ground : Cl P w K mg base 6 "_law_any_ground" (sp__law_any_ground K G)) (c__law_near_pair : Cl P w K mg base 5 "_law_near_pair" (sp__law_near_pair K G)) (c_Part__init_ : Ma P w K mg base 8 "Part" G.Part (sp_Part__init_ K G)) (c_part_table : Cl P w K mg base 7 "part_table" (sp_part_table K G)) (c__law_cross : Cl P w K mg base 4 "_law_cross" (sp__law_cross K G)) (c_Part_blocks : Me P w K mg base 2 G.Part "blocks" (sp_Part_blocks K G)) (c__law_pair : Cl P w K mg base 10 "_law_pair" (sp__law_pair K G)) (c_Nest_codes : Me P w K mg base 1 G.Nest "codes" (sp_Nest_codes K G)) (c__law_units : Cl P w K mg base 1 "_law_units" (sp__law_units K G)) (c__law_far : Cl P w K mg base 5 "_law_far" (sp__law_far K G)) (c_part_table_R : ClX P w K mg base 4 "part_table" (spR_part_table K G)) (c_part_frame_R : ClX P w K mg base 4 "part_frame" (spR_part_frame K G)) {gU : Addr} {fdU : FuncData} (FU : Df K "_law_is_unlike" "_law_is_unlike" (top 70) gU fdU) (gUm : mg "_law_is_unlike" = some (.ref gU)) (bU : Binds K fdU ["_law_call"] []) {cL Pt : Addr} (TB : LamX.TabB base mg cL Pt) (exU : PySem.W.exmOne K (.ref G.UnlikeGrounds) (.ref G.UnlikeGrounds) = some true) (A : Around) (hgd : A.guards = some []) (outer : List Env) (s : Shared) (H : Hp) (vs : List V) (Q : VK) (E : XK) (hr : Room 10 (A.deeper (PyProof.Rows.envOfC "law" (defScope (top 73)) s.heap.objs.size f (.ref cL)))) (h : sp_law K G Pt vs H Q E) :
    ∃ t, PSs (cxOf CX0 P w K mg base ["_law_script", "_law_source_here", "_law_lap", "_law_ground_here", "_law_ones", "_law_others", "_law_one", "_law_other", "_law_told", "_law_flipped", "_law_pair_here", "_law_n", "_law_f", "_law_g", "_law_due", "_law_far_here", "_law_i", "_law_row", "_law_y", "_law_j"] "law" (defScope (top 73)) f (.ref cL) A outer s H E) (defBody (top 73)) t ∧ t { nx := fun _ H' => Q .non H', rt := Q } (L2.start ["_law_script", "_law_source_here", "_law_lap", "_law_ground_here", "_law_ones", "_law_others", "_law_one", "_law_other", "_law_told", "_law_flipped", "_law_pair_here", "_law_n", "_law_f", "_law_g", "_law_due", "_law_far_here", "_law_i", "_law_row", "_law_y", "_law_j"] vs) H := by
  have sc : FnScope ["_law_script", "_law_source_here", "_law_lap", "_law_ground_here", "_law_ones", "_law_others", "_law_one", "_law_other", "_law_told", "_law_flipped", "_law_pair_here", "_law_n", "_law_f", "_law_g", "_law_due", "_law_far_here", "_law_i", "_law_row", "_law_y", "_law_j"] ["_law_script"] (defScope (top 73)) := ⟨rfl, rfl, rfl, by decide +kernel, rfl, by decide +kernel, by decide +kernel⟩
  have scU : FnScope ["_law_call"] ["_law_call"] (defScope (top 70)) := ⟨rfl, rfl, rfl, by decide +kernel, rfl, by decide +kernel, by decide +kernel⟩
  obtain ⟨ocU, odU, dVU, kVU, docU, pmU, anU, cdvU, ctU, oslU, rfl, lkU, hcU, _, _⟩ := FU.ex
  have hu : (A.deeper (PyProof.Rows.envOfC "law" (defScope (top 73)) s.heap.objs.size f (.ref cL))).units + 100 < cLine := by have := hr.un; omega
  refine ⟨_, PSs.nox (pss_cons (ps_set (i := 1) sc.nd rfl (Or.inl rfl) (pe_cl c__law_source hr (by decide) (by rfl) (pa_cons (pv 0) pa_nil))) (pss_cons (ps_for PassesOwn.never rfl (pi_range1 (by rfl) T.f_range (pa_cons pe_int pa_nil)) (pg_name (i := 2) sc.nd rfl (Or.inl rfl)) (pss_cons (ps_set (i := 3) sc.nd rfl (Or.inl rfl) (pe_cl c__law_any_ground hr (by decide) (by rfl) (pa_cons (pv 1) (pa_cons pe_int pa_nil)))) (pss_cons (ps_asg (pe_cl c__law_near_pair hr (by decide) (by rfl) (pa_cons (pv 1) (pa_cons (pv 3) pa_nil))) (x_lst2 (K := K) (pgs_cons (pg_name (i := 4) sc.nd rfl (Or.inl rfl)) (pgs_cons (pg_name (i := 5) sc.nd rfl (Or.inl rfl)) pgs_nil)))) (pss_cons (ps_asg (pe_tup (pa_cons (pe_ma c_Part__init_ hr (by decide) (by rfl) (pa_cons (pe_dget (hu_of hr) (pv 3) pe_str (fun _ _ => rfl)) (pa_cons (pv 4) pa_nil))) (pa_cons (pe_ma c_Part__init_ hr (by decide) (by rfl) (pa_cons (pe_dget (hu_of hr) (pv 3) pe_str (fun _ _ => rfl)) (pa_cons (pv 5) pa_nil))) pa_nil))) (x_tup (K := K) (n := 2) rfl (pgs_cons (pg_name (i := 6) sc.nd rfl (Or.inr rfl)) (pgs_cons (pg_name (i := 7) sc.nd rfl (Or.inl rfl)) pgs_nil)))) (pss_cons (ps_set (i := 8) sc.nd rfl (Or.inr rfl) (pe_cl c_part_table hr (by decide) (by rfl) (pa_cons (pv 6) (pa_cons (pv 7) pa_nil)))) (pss_cons (ps_if (pt_cmpR (x_ne (K := K) hr.units) (pe_callB (x_reprD (K := K) hgd hu) (by rfl) T.f_repr (by decide +kernel) (pa_cons (pv 8) pa_nil)) (pe_callB (x_reprD (K := K) hgd hu) (by rfl) T.f_repr (by decide +kernel) (pa_cons (pe_cl c__law_cross hr (by decide) (by rfl) (pa_cons (pv 3) (pa_cons (pv 4) (pa_cons (pv 5) pa_nil)))) pa_nil)) (nomark _)) (pss_cons (ps_ret pe_bl) pss_nil) pss_nil) (pss_cons (ps_if (PW.pt (pw_or (pt_cmpR (x_ne (K := K) hr.units) (pe_lc (own := [("_law_row", 17)]) rfl sc.nd (x_sq (K := K) (pv 8)) (blkOk_by (by kernel_rfl)) (fun _ _ _ _ _ => (pg_name (i := 17) sc.nd rfl (by first | exact Or.inl rfl | exact Or.inr rfl))) (fun _ _ _ _ _ => pts_nil) (fun _ _ _ _ _ => (pe_callB (x_sumT (K := K)) (by rfl) T.f_sum (by decide +kernel) (pa_cons (pv 17) pa_nil)))) (pe_callTy (x_list (K := K)) (by rfl) T.f_list (by decide +kernel) (pa_cons (pe_me0 c_Part_blocks hr (by decide) (pv 6)) pa_nil)) (nomark _)) (pw_or1 (pt_cmpR op_lt (pe_callB (x_minL (K := K)) (by rfl) T.f_min (by decide +kernel) (pa_cons (pe_op (x_add (K := K)) (pe_lst (pa_cons pe_int pa_nil)) (pe_lc (own := [("_law_row", 17)]) rfl sc.nd (x_sq (K := K) (pv 8)) (blkOk_by (by kernel_rfl)) (fun _ _ _ _ _ => (pg_name (i := 17) sc.nd rfl (by first | exact Or.inl rfl | exact Or.inr rfl))) (fun _ _ _ _ _ => pts_nil) (fun _ _ _ _ _ => (pe_callB (x_minT (K := K) hu) (by rfl) T.f_min (by decide +kernel) (pa_cons (pv 17) pa_nil))))) pa_nil)) pe_int (nomark _))))) (pss_cons (ps_ret pe_bl) pss_nil) pss_nil) (pss_cons (ps_set (i := 9) sc.nd rfl (Or.inl rfl) (pe_cl c_part_table hr (by decide) (by rfl) (pa_cons (pv 7) (pa_cons (pv 6) pa_nil)))) (pss_cons (ps_if (pt_cmpR (x_ne (K := K) hr.units) (pv 9) (pe_callTy (x_tuple (K := K)) (by rfl) T.f_tuple (by decide +kernel) (pa_cons (pe_lc (own := [("_law_y", 18)]) rfl sc.nd (pi_range1 (by rfl) T.f_range (pa_cons (pe_callB (x_len (K := K)) (by rfl) T.f_len PySem.boot_len (pa_cons (pe_me0 c_Part_blocks hr (by decide) (pv 7)) pa_nil)) pa_nil)) (blkOk_by (by kernel_rfl)) (fun _ _ _ _ _ => (pg_name (i := 18) sc.nd rfl (by first | exact Or.inl rfl | exact Or.inr rfl))) (fun _ _ _ _ _ => pts_nil) (fun _ _ _ _ _ => (pe_callTy (x_tuple (K := K)) (by rfl) T.f_tuple (by decide +kernel) (pa_cons (pe_lc (own := [("_law_row", 17)]) rfl sc.nd (x_sq (K := K) (pv 8)) (blkOk_by (by kernel_rfl)) (fun _ _ _ _ _ => (pg_name (i := 17) sc.nd rfl (by first | exact Or.inl rfl | exact Or.inr rfl))) (fun _ _ _ _ _ => pts_nil) (fun _ _ _ _ _ => (pe_ix (x_ix (K := K)) (pv 17) (pv 18) (fun _ _ => rfl)))) pa_nil)))) pa_nil)) (nomark _)) (pss_cons (ps_ret pe_bl) pss_nil) pss_nil) (pss_cons (ps_asg (pe_tup (pa_cons (pe_cl c__law_pair hr (by decide) (by rfl) (pa_cons (pv 1) (pa_cons (pv 3) pa_nil))) (pa_cons (pe_dget (hu_of hr) (pv 3) pe_str (fun _ _ => rfl)) pa_nil))) (x_tup (K := K) (n := 2) rfl (pgs_cons (pg_name (i := 10) sc.nd rfl (Or.inr rfl)) (pgs_cons (pg_name (i := 11) sc.nd rfl (Or.inr rfl)) pgs_nil)))) (pss_cons (ps_par (i := 12) (j := 13) (by rfl) sc.nd rfl rfl (by decide) rfl rfl (pa_cons (pe_ma c_Part__init_ hr (by decide) (by rfl) (pa_cons (pe_dget (hu_of hr) (pv 3) pe_str (fun _ _ => rfl)) (pa_cons (pe_me0 c_Nest_codes hr (by decide) (pe_dget (hu_of hr) (pv 10) pe_str (fun _ _ => rfl))) pa_nil))) (pa_cons (pe_ma c_Part__init_ hr (by decide) (by rfl) (pa_cons (pe_dget (hu_of hr) (pv 3) pe_str (fun _ _ => rfl)) (pa_cons (pe_me0 c_Nest_codes hr (by decide) (pe_dget (hu_of hr) (pv 10) pe_str (fun _ _ => rfl))) pa_nil))) pa_nil)) (by rfl)) (pss_cons (ps_setLc (i := 14) (own := [("_law_i", 16)]) rfl sc.nd rfl rfl (sw_true rfl rfl rfl (by decide +kernel)) (pi_range1 (by rfl) T.f_range (pa_cons (pv 11) pa_nil)) (blkOk_by (by kernel_rfl)) (fun _ _ _ _ _ => (pg_name (i := 16) sc.nd rfl (by first | exact Or.inl rfl | exact Or.inr rfl))) (fun _ _ _ _ _ => pts_nil) (fun _ _ _ _ _ => (pe_callTy (x_tuple (K := K)) (by rfl) T.f_tuple (by decide +kernel) (pa_cons (pe_lc (own := [("_law_j", 19)]) rfl sc.nd (pi_range1 (by rfl) T.f_range (pa_cons (pv 11) pa_nil)) (blkOk_by (by kernel_rfl)) (fun _ _ _ _ _ => (pg_name (i := 19) sc.nd rfl (by first | exact Or.inl rfl | exact Or.inr rfl))) (fun _ _ _ _ _ => pts_nil) (fun _ _ _ _ _ => (pe_callTy x_int (by rfl) T.f_int (by decide +kernel) (pa_cons (pe_cmpR (x_eq (K := K) hr.units) (pe_ix (x_ix (K := K)) (pe_dget (hu_of hr) (pv 10) pe_str (fun _ _ => rfl)) (pv 16) (fun _ _ => rfl)) (pv 19) (nomark _)) pa_nil)))) pa_nil)))) (pss_cons (ps_if (PW.pt (pw_or (pt_cmpR (x_ne (K := K) hr.units) (pe_cl c_part_table hr (by decide) (by rfl) (pa_cons (pv 12) (pa_cons (pv 13) pa_nil))) (pe_callTy (x_tuple (K := K)) (by rfl) T.f_tuple (by decide +kernel) (pa_cons (pv 14) pa_nil)) (nomark _)) (pw_or1 (pt_cmpR (x_ne (K := K) hr.units) (pe_cl c_part_table hr (by decide) (by rfl) (pa_cons (pv 12) (pa_cons (pv 12) pa_nil))) (pe_callTy (x_tuple (K := K)) (by rfl) T.f_tuple (by decide +kernel) (pa_cons (pe_cl c__law_units hr (by decide) (by rfl) (pa_cons (pv 11) pa_nil)) pa_nil)) (nomark _))))) (pss_cons (ps_ret pe_bl) pss_nil) pss_nil) (pss_cons (ps_set (i := 15) sc.nd rfl (Or.inr rfl) (pe_ma c_Part__init_ hr (by decide) (by rfl) (pa_cons (pe_cl c__law_far hr (by decide) (by rfl) (pa_cons (pv 3) pa_nil)) (pa_cons (pe_lst pa_nil) pa_nil)))) (pss_cons (ps_if (pt_not (pt_val (LamX.pe_lamcall (T := TL Pt) (TT := TUnl K G.UnlikeGrounds) (t := fun E => tCallS (spR_part_table K G) (WE fun cls d _ H => E cls d H) (tCons (tVar 6) (tCons (tVar 15) tNil))) (k := 8) (by rfl) gUm FU.kp lkU hcU bU scU rfl (.inl rfl) (unl_gives (by rfl) T.g_UnlikeGrounds rfl (fun _ => rfl)) TB rfl (List.mem_singleton.mpr rfl) (fun p hp _ => by obtain rfl := List.mem_singleton.mp hp; rfl) (hr.mono (by decide)) (LamX.lamS_by (by show LamX.lamSB (defScope (top 73)) _ = true; decide +kernel)) rfl (fun _ _ _ _ _ => rfl) (fun A outer s2 H2 E2 f2 c2 hr2 => pe_clX c_part_table_R hr2 (by decide) (takes_of rfl rfl rfl rfl) (by rfl) (pa_cons (pv 6) (pa_cons (pv 15) pa_nil)))))) (pss_cons (ps_ret pe_bl) pss_nil) pss_nil) (pss_cons (ps_if (pt_not (pt_val (LamX.pe_lamcall (T := TL Pt) (TT := TUnl K G.UnlikeGrounds) (t := fun E => tCallS (spR_part_frame K G) (WE fun cls d _ H => E cls d H) (tCons (tVar 15) (tCons (tVar 6) tNil))) (k := 8) (by rfl) gUm FU.kp lkU hcU bU scU rfl (.inl rfl) (unl_gives (by rfl) T.g_UnlikeGrounds rfl (fun _ => rfl)) TB rfl (List.mem_singleton.mpr rfl) (fun p hp _ => by obtain rfl := List.mem_singleton.mp hp; rfl) (hr.mono (by decide)) (LamX.lamS_by (by show LamX.lamSB (defScope (top 73)) _ = true; decide +kernel)) rfl (fun _ _ _ _ _ => rfl) (fun A outer s2 H2 E2 f2 c2 hr2 => pe_clX c_part_frame_R hr2 (by decide) (takes_of rfl rfl rfl rfl) (by rfl) (pa_cons (pv 15) (pa_cons (pv 6) pa_nil)))))) (pss_cons (ps_ret pe_bl) pss_nil) pss_nil) pss_nil)))))))))))))))) (pss_cons (ps_ret pe_bl) pss_nil))), ?_⟩
  obtain ⟨a, ns, rfl, hs, hl, hP, k⟩ := h
  have st : At K z0 H [] (some (.raw (.ref a)) :: List.replicate 19 none) (L2.start ["_law_script", "_law_source_here", "_law_lap", "_law_ground_here", "_law_ones", "_law_others", "_law_one", "_law_other", "_law_told", "_law_flipped", "_law_pair_here", "_law_n", "_law_f", "_law_g", "_law_due", "_law_far_here", "_law_i", "_law_row", "_law_y", "_law_j"] [V.ref a]) H := at_beg (.cons (.raw (.ref a)) .nil) rfl rfl
  refine ⟨_, rfl, a, ns, rfl, hs, by omega, fun A' C H1 nA nC ex sr => ?_⟩
  obtain ⟨g1, j1⟩ := st.ex ex
  have s1 := (at_toS (A := A') (C := C) (st.step g1 j1) sr (imm_first 19)).set 1 (d := .raw (.ref A')) (.raw _)
  have hT1 : LamX.Tabs (TL Pt) H1 := fun q hq => by
    rw [List.mem_singleton.mp hq]
    exact LamX.TabS.nil (ex _ _ hP)
  show tSeq _ _ _ _ _
  refine q_forR (W := wF) (n := 3) (Inv := fun _ σ' H' => LamX.Tabs (TL Pt) H' ∧ At K (Zs A' C) H' [] [some (.raw (.ref a)), some (.raw (.ref A')), none, none, none, none, none, none, none, none, none, none, none, none, none, none, none, none, none, none] σ' H') s1 (ea_cons ev_int ea_nil) (by decide) (fun H' s => ⟨Tabs.gm hT1 s.go (src_kind sr), s.here⟩) ?_ ?_
  · rintro i hi σ' H' ⟨hT, s0⟩ N kN
    have s2 := s0.set (i := 2) (d := .int (0 + (i : Nat))) (v := .int (0 + (i : Nat))) (.int _)
    refine q_asg s2 (P := fun d => ∃ p n : Nat, d = grD G p n ∧ SmP p ∧ n ≤ 6) (ev_callS rfl (ea_cons ev_int ea_nil) fun ds q => ⟨6, q.symm, ⟨by decide, by decide⟩, fun d q => q⟩) fun d pd σ3 H4 s3 => ?_
    obtain ⟨p, n, rfl, hp, n6⟩ := pd
    have g : Gd p n := hp.gd (by omega)
    have pr := g.pr
    refine q_asgT (P := fun d => ∃ cs ds : List Code, d = .lst [csD cs, csD ds] ∧ PartOk p n cs ∧ PartOk p n ds) (is := [4, 5]) (es := fun d => match d with | .lst [a, b] => [a, b] | _ => [.non, .non]) s3 (ev_callS rfl (ea_cons (ev_varW rfl) ea_nil) fun ds q => ⟨(p, n), q.symm, ⟨hp, by show n ≤ 100; omega⟩, fun d q => q⟩) (fun d q => by obtain ⟨cs, ds, rfl, _⟩ := q; exact gt_lst2) fun d pd σ4 H5 s4 => ?_
    obtain ⟨cs, ds, rfl, o1, o2⟩ := pd
    have lt1 := len_tops o1
    have lt2 := len_tops o2
    have sm1 := sm_tab pr (by omega) o1 o2
    refine q_asgT (P := Eq (.tup [partD G p n cs, partD G p n ds])) (is := [6, 7]) (es := fun _ => [partD G p n cs, partD G p n ds]) s4 (ev_tup (ea_cons (ev_part (ea_cons (ev_dmade (ev_varW rfl)) (ea_cons (ev_varW rfl) ea_nil)) (.tup _) g o1) (ea_cons (ev_part (ea_cons (ev_dmade (ev_varW rfl)) (ea_cons (ev_varW rfl) ea_nil)) (.tup _) g o2) ea_nil))) (fun d q => q ▸ gt_tup2) fun d pd σ5 H6 s5 => ?_
    subst pd
    refine q_asg s5 (ev_part_table (ea_cons (ev_varW rfl) (ea_cons (ev_varW rfl) ea_nil)) g o1 o2) fun d pd σ6 H7 s6 => ?_
    subst pd
    refine q_if s6 (EVT.eq (c := false) (et_test (W := wF) (ev_op (ev_cb (ea_cons (ev_varW rfl) ea_nil) (rc_tab sm1)) (ev_cb (ea_cons (ev_lcross (ea_cons (ev_varW rfl) (ea_cons (ev_varW rfl) (ea_cons (ev_varW rfl) ea_nil))) g o1 o2) ea_nil) (rc_tab sm1)) rr_neS)) (by simp)) (fun z => nomatch z) fun _ H8 s7 => ?_
    have hsum := sums_rows (sums_tab (ds := ds) pr o1)
    refine q_next (q_if s7 (et_or (b := false) (c := false) (EVT.eq (et_test (W := wF) (ev_op (d := lstD ((tabM p n (wholeL n cs) (wholeL n ds)).map List.sum)) (e := lstD ((tabM p n (wholeL n cs) (wholeL n ds)).map List.sum)) (EV.eq (ev_lcM (xs := tabM p n (wholeL n cs) (wholeL n ds)) (h := rowD) (is := [17]) (es := fun r => [rowD r]) (fn := fun r => .int r.sum) (it_tup (N := Mt (Zs A' C) []) (ev_var rfl)) (.inl fun _ => Iff.rfl) (by have := sm1.len; omega) (fun _ _ => gt_name) (by decide) fun r hr => ev_cb (ea_cons (ev_varW rfl) ea_nil) rc_sumT) (by show Dt.lst _ = Dt.lst _; rw [List.map_map]; rfl)) (EV.eq (ev_cb (ea_cons (ev_pblocks (ev_varW rfl) g o1) ea_nil) (rc_list (.tup _))) hsum.symm) rr_neLI)) (by simp)) fun _ => EVT.eq (b := false) (Ly.EVT.to (et_testP (W := wF) (P := fun b => b = false) (ev_opP (P2 := Eq (.int 0)) (P1 := fun d => ∃ m : Int, d = .int m ∧ 0 ≤ m) (P := fun d => ∃ b, d = .bl b ∧ b = false) ?_ (fun _ _ => ev_int) fun d e q z => ?_)) fun b q => q.symm) rfl) (fun z => nomatch z) fun _ H9 s8 => ?_)
    · refine ev_cbP (PL := fun l => ∃ ms : List Int, l = [.lst (ms.map .int)] ∧ 0 < ms.length ∧ ∀ m ∈ ms, 0 ≤ m) (Ly.EVA.to (ea_consP (P := fun d => ∃ ms : List Int, d = .lst (ms.map .int) ∧ 0 < ms.length ∧ ∀ m ∈ ms, 0 ≤ m) (ev_opP (P1 := Eq (.lst [.int 0])) (P2 := fun d => ∃ ms : List Int, d = .lst (ms.map .int) ∧ ms.length ≤ 200 ∧ ∀ m ∈ ms, 0 ≤ m) (ev_lst (ea_cons ev_int ea_nil)) (fun _ _ => (ev_lcP (xs := tabM p n (wholeL n cs) (wholeL n ds)) (h := rowD) (is := [17]) (es := fun r => [rowD r]) (B := fun _ b => b = true) (Pe := fun r d => ∃ m : Int, d = .int m ∧ m ∈ r) (it_tup (N := Mt (Zs A' C) []) (ev_var rfl)) (.inl fun _ => Iff.rfl) (by have := sm1.len; omega) (fun _ _ => gt_name) (by decide) (fun r hr => Ly.EVT.to et_yes fun b q => q.symm) fun r hr _ => ?_).to fun d q => ?_) fun d e q z => ?_) fun _ _ => ea_nil) fun l q => ?_) fun l q => ?_
      · have hne := row_ne pr o1 hr
        match r, hne with
        | x :: r, _ => exact ev_cb (ea_cons (ev_varW rfl) ea_nil) rc_minT
      · obtain ⟨es, rfl, m⟩ := q
        obtain ⟨ms, e1, e2⟩ := made_mins (fun r hr x hx => tab_ge pr o1 o2 hr hx) m
        have := m.len
        have h3 := sm1.len
        exact ⟨ms, by rw [e1], by rw [e1, List.length_map] at this; omega, e2⟩
      · subst q
        obtain ⟨ms, rfl, h1, h2⟩ := z
        exact (rr_addL (ds := [.int 0]) (es := ms.map .int) (by rw [List.length_map]; simp; omega)).to fun d q => ⟨0 :: ms, q.symm, Nat.succ_pos _, fun m hm => by
          rcases List.mem_cons.mp hm with z | z
          · omega
          · exact h2 m z⟩
      · obtain ⟨_, _, rfl, ⟨ms, rfl, h1, h2⟩, rfl⟩ := q
        exact ⟨ms, rfl, h1, h2⟩
      · obtain ⟨ms, rfl, h1, h2⟩ := q
        exact (rc_minL h1).to fun d q => by
          obtain ⟨m, rfl, hm⟩ := q
          exact ⟨m, rfl, h2 m hm⟩
    · obtain ⟨m, rfl, hm⟩ := q
      subst z
      exact rr_lt.to fun d q => ⟨_, q.symm, decide_eq_false (by omega)⟩
    have lb : (blocksM n ds).length = ((wholeL n ds).zip (wholeL n ds).tail).length := by unfold blocksM; rw [List.length_map]
    have lb2 : (blocksM n ds).length ≤ 200 := by rw [lb, List.length_zip]; omega
    have rl : ∀ r ∈ tabM p n (wholeL n cs) (wholeL n ds), r.length = (blocksM n ds).length := fun r hr => by
      unfold tabM at hr
      obtain ⟨z, hz, rfl⟩ := List.mem_map.mp hr
      unfold rowT
      rw [List.length_map, lb]
    refine q_next (q_asg s8 (ev_part_table (ea_cons (ev_varW rfl) (ea_cons (ev_varW rfl) ea_nil)) g o2 o1) fun d pd σ7 H10 s9 => ?_)
    subst pd
    refine q_if s9 (EVT.eq (c := false) (et_test (W := wF) (ev_op (d := tabD (tabM p n (wholeL n ds) (wholeL n cs))) (e := tabD (tabM p n (wholeL n ds) (wholeL n cs))) (ev_varW rfl) (EV.eq (ev_cb (ea_cons (ev_lcM (xs := List.range (blocksM n ds).length) (h := fun k : Nat => .int (0 + (k : Nat))) (is := [18]) (es := fun k => [.int (0 + (k : Nat))]) (fn := fun y => rowD ((tabM p n (wholeL n cs) (wholeL n ds)).map fun row => row.getD y 0)) (it_r1 (N := Mt (Zs A' C) []) (n := (blocksM n ds).length) (W := wF) (ea_cons (EV.eq (ev_cb (ea_cons (ev_pblocks (ev_varW rfl) g o2) ea_nil) (rc_len (.tup _))) (by rw [List.length_map])) ea_nil) (by omega)) (.inl fun _ => Iff.rfl) (by rw [List.length_range]; omega) (fun _ _ => gt_name) (by decide) fun y hy => ?_) ea_nil) (rc_tuple (.lst _))) ?_) (rr_neE enc_code1))) (by simp)) (fun z => nomatch z) fun _ H11 s10 => ?_
    · have hy := List.mem_range.mp hy
      refine EV.eq (ev_cb (ea_cons (ev_lcM (xs := tabM p n (wholeL n cs) (wholeL n ds)) (h := rowD) (is := [17]) (es := fun r => [rowD r]) (fn := fun r => .int (r.getD y 0)) (it_tup (N := Mt (Zs A' C) []) (ev_var rfl)) (.inl fun _ => Iff.rfl) (by have := sm1.len; omega) (fun _ _ => gt_name) (by decide) fun r hr => ev_op (ev_varW rfl) (ev_varW rfl) (rr_ixT (ix_nat (by omega) ?_))) ea_nil) (rc_tuple (.lst _))) (by show Dt.tup _ = Dt.tup _; rw [List.map_map]; rfl)
      have hyr : y < r.length := by rw [rl r hr]; exact hy
      rw [show (0 + (y : Int)).toNat = y by omega, List.getElem?_map, List.getD_eq_getElem?_getD, List.getElem?_eq_getElem hyr]
      rfl
    · rw [tab_flip pr o1 o2]
      show Dt.tup _ = Dt.tup _
      rw [List.map_map]
      rfl
    refine q_next (q_asgT (P := fun d => ∃ (base : Code) (o : List Nat), d = .tup [prD G p n base o, .int n] ∧ Bs p n base ∧ o.Perm (List.range n)) (is := [10, 11]) (es := fun d => match d with | .tup [a, b] => [a, b] | _ => [.non, .non]) s10 ((ev_tupP (ea_consP (ev_callS (P := fun d => ∃ (base : Code) (o : List Nat), d = prD G p n base o ∧ Bs p n base ∧ o.Perm (List.range n)) rfl (ea_cons (ev_varW rfl) ea_nil) fun ds q => ⟨(p, n), q.symm, ⟨hp, by show n ≤ 100; omega⟩, fun d q => q⟩) fun _ _ => ea_consP (ev_dn (ev_varW rfl)) fun _ _ => ea_nil) fun ds q => ?_).to fun d q => ?_) (fun d q => by obtain ⟨_, _, rfl, _⟩ := q; exact gt_tup2) fun d pd σ8 H12 s11 => ?_)
    · obtain ⟨_, _, rfl, _, _, _, rfl, _, rfl⟩ := q
      exact Nat.le_of_ble_eq_true rfl
    · obtain ⟨_, rfl, _, _, rfl, ⟨base, o, rfl, bs, po⟩, _, _, rfl, rfl, rfl⟩ := q
      exact ⟨base, o, rfl, bs, po⟩
    obtain ⟨b, o, rfl, bs, po⟩ := pd
    have lo : o.length = n := by rw [po.length_eq, List.length_range]
    have b2 := bs.perm (second_perm (base := b) (o := o) (by rw [bs.len]; exact po))
    have f1 := flag_bs pr bs
    have f2 := flag_bs pr b2
    have p1 := (flag_up pr f1).part pr
    have p2 := (flag_up pr f2).part pr
    have pf : ∀ {L : Own} {Γ : Gam} {W : Hp → Addr → Prop} [Wd K (Zs A' C) L W], Γ[10]? = some (some (prD G p n b o)) → EV K (Zs A' C) H' L Γ W (tDGet (tVar 10) (tC (.str "f"))) (Eq (nestD G p n (codesM p b))) := fun h => ev_dget (ev_varW h) ev_str rfl
    have pg : ∀ {L : Own} {Γ : Gam} {W : Hp → Addr → Prop} [Wd K (Zs A' C) L W], Γ[10]? = some (some (prD G p n b o)) → EV K (Zs A' C) H' L Γ W (tDGet (tVar 10) (tC (.str "g"))) (Eq (nestD G p n (codesM p (secondM b o)))) := fun h => ev_dget (ev_varW h) ev_str rfl
    have pq : ∀ {L : Own} {Γ : Gam} {W : Hp → Addr → Prop} [Wd K (Zs A' C) L W], Γ[10]? = some (some (prD G p n b o)) → EV K (Zs A' C) H' L Γ W (tDGet (tVar 10) (tC (.str "order"))) (Eq (plD o)) := fun h => ev_dget (ev_varW h) ev_str rfl
    refine q_par (PL := Eq [partD G p n (codesM p b), partD G p n (codesM p (secondM b o))]) s11 (ea_cons (ev_part (ea_cons (ev_dmade (ev_varW rfl)) (ea_cons (ev_ncodes (pf rfl)) ea_nil)) (.lst _) g p1) (ea_cons (ev_part (ea_cons (ev_dmade (ev_varW rfl)) (ea_cons (ev_ncodes (pg rfl)) ea_nil)) (.lst _) g p2) ea_nil)) fun es q => ⟨_, _, q.symm, fun σ9 H13 s12 => ?_⟩
    refine q_asg s12 (P := Eq (.lst ((List.range n).map fun i => rowD ((List.range n).map fun j => if ordN o i = j then 1 else 0)))) (ev_lcM (xs := List.range n) (h := fun k : Nat => .int (0 + (k : Nat))) (is := [16]) (es := fun k => [.int (0 + (k : Nat))]) (fn := fun i => rowD ((List.range n).map fun j => if ordN o i = j then 1 else 0)) (it_r1 (N := Mt (Zs A' C) []) (n := n) (W := wW (Zs A' C)) (ea_cons (ev_varW rfl) ea_nil) (by omega)) (.inl fun _ => Iff.rfl) (by rw [List.length_range]; omega) (fun _ _ => gt_name) (by decide) fun i hi => ?_) fun d pd σ10 H14 s13 => ?_
    · have hi := List.mem_range.mp hi
      refine EV.eq (ev_cb (ea_cons (ev_lcM (xs := List.range n) (h := fun k : Nat => .int (0 + (k : Nat))) (is := [19]) (es := fun k => [.int (0 + (k : Nat))]) (fn := fun j => .int (if ordN o i = j then 1 else 0)) (it_r1 (N := Mt (Zs A' C) []) (n := n) (W := wW (Zs A' C)) (ea_cons (ev_varW rfl) ea_nil) (by omega)) (.inl fun _ => Iff.rfl) (by rw [List.length_range]; omega) (fun _ _ => gt_name) (by decide) fun j hj => ?_) ea_nil) (rc_tuple (.lst _))) (by show Dt.tup _ = Dt.tup _; rw [List.map_map]; rfl)
      refine EV.eq (ev_cb (ea_cons (ev_op (ev_op (pq rfl) (ev_varW rfl) (rr_ixT (ord_at (by omega)))) (ev_varW rfl) rr_eqI) ea_nil) rc_intB) ?_
      congr 1
      by_cases z : ordN o i = j
      · rw [if_pos z, z]
        simp
      · rw [if_neg z, if_neg (by simp; omega)]
    subst pd
    refine q_if s13 (EVT.eq (c := false) (et_or (b := false) (c := false) (EVT.eq (et_test (W := wF) (ev_op (d := tabD (tabM p n (wholeL n (codesM p b)) (wholeL n (codesM p (secondM b o))))) (e := tabD (tabM p n (wholeL n (codesM p b)) (wholeL n (codesM p (secondM b o))))) (ev_part_table (ea_cons (ev_varW rfl) (ea_cons (ev_varW rfl) ea_nil)) g p1 p2) (EV.eq (ev_cb (ea_cons (ev_varW rfl) ea_nil) (rc_tuple (.lst _))) ?_) (rr_neE enc_code1))) (by simp)) fun _ => EVT.eq (et_test (W := wF) (ev_op (d := tabD (unitsM n)) (e := tabD (unitsM n)) (EV.eq (ev_part_table (ea_cons (ev_varW rfl) (ea_cons (ev_varW rfl) ea_nil)) g p1 p1) (by rw [tab_self pr bs])) (ev_cb (ea_cons (ev_lunits (ea_cons (ev_varW rfl) ea_nil) (by omega)) ea_nil) (rc_tuple (.lst _))) (rr_neE enc_code1))) (by simp)) rfl) (fun z => nomatch z) fun _ H15 s14 => ?_
    · rw [tab_order pr bs po]
      show Dt.tup _ = Dt.tup _
      rw [List.map_map]
      rfl
    have up0 : ∀ q m : Nat, PartOk q m [] := fun q m => ⟨fun k c h => (by simp at h), fun k c h => (by simp at h)⟩
    refine q_next (q_asg s14 (P := fun d => ∃ q m : Nat, d = partD G q m [] ∧ (q, m) ≠ (p, n)) (ev_makeP (ea_consP (ev_lfar (ea_cons (ev_varW rfl) ea_nil) hp (by omega)) fun _ _ => ea_consP (ev_lst ea_nil) fun _ _ => ea_nil) fun es q => ?_) fun d pd σ11 H16 s15 => ?_)
    · obtain ⟨_, _, rfl, ⟨q, m, rfl, gq, ne⟩, _, _, rfl, rfl, rfl⟩ := q
      exact ⟨((q, m), true, []), rfl, ⟨gq, up0 q m⟩, q, m, rfl, ne⟩
    obtain ⟨q, m, rfl, ne⟩ := pd
    have hT15 : LamX.Tabs (TL Pt) H16 := Tabs.gm hT s15.go (src_kind s0.j)
    refine q_unl s15 hT15 exU (((p, n), cs), ((q, m), [])) (fun _ => ea_cons (ev_varW rfl) (ea_cons (ev_varW rfl) ea_nil)) (fun z => ne z.symm) fun H17 s16 hT16 => ?_
    refine q_unl s16 hT16 exU (((q, m), []), ((p, n), cs)) (fun _ => ea_cons (ev_varW rfl) (ea_cons (ev_varW rfl) ea_nil)) ne fun H18 s17 hT17 => ?_
    exact q_next (kN σ11 H18 ⟨hT17, s17.less (.keep (.keep (.drop (.drop (.drop (.drop (.drop (.drop (.drop (.drop (.drop (.drop (.drop (.drop (.drop (.drop (.keep (.keep (.keep (.keep .nil))))))))))))))))))))⟩)
  · rintro σ' H' ⟨_, s2⟩
    exact ev_bl (W := wF) σ' H' s2 _ fun d v H2 pd _ _ i2 => by
      subst pd
      cases i2
      exact k H2
end
end Wk
end
section
set_option Elab.async false
set_option linter.all false
set_option maxRecDepth 100000
set_option maxHeartbeats 2000000
set_option autoImplicit false
namespace Ly
open PySem L2 PySem.Spec PyProof.Rows He
/-! ### the head's facts, and what isinstance and != ask of a class -/
inductive Fx where
  | isa (x : PySem.Str)
  | ne (x : PySem.Str)
def Fx.ok (K : PySem.W.Frag) : Fx → Bool
  | .isa x => eqO (PySem.W.findIn K (.ref (ga K x)) "__class__") (some (some (.builtin "object.__class__"))) && (eqO (PySem.W.specialIn K (.builtin "object.__class__") "__get__") (some (some (.builtin "getset_descriptor.__get__"))) &&
      (decide (PySem.W.takesIn K (.builtin "object.__class__") = some true) && decide (PySem.W.mroIn K (ga K x) (.type "object") = some true)))
  | .ne x => eqO (PySem.W.findIn K (.ref (ga K x)) "__ne__") (some (some (.builtin "object.__ne__"))) && decide (PySem.W.subIn K (.ref (ga K x)) (.type "object") = some true)
section
variable {K : PySem.W.Frag} {x : PySem.Str}
theorem isa_ok (c : Cls K (ga K x)) (h : (Fx.isa x).ok K = true) : Isa K (ga K x) := by
  obtain ⟨h1, h⟩ := ba h
  obtain ⟨h2, h⟩ := ba h
  obtain ⟨h3, h4⟩ := ba h
  exact ⟨c, eqO_ok h1, eqO_ok h2, of_decide_eq_true h3, of_decide_eq_true h4⟩
theorem ne_ok (h : (Fx.ne x).ok K = true) : PySem.W.findIn K (.ref (ga K x)) "__ne__" = some (some (.builtin "object.__ne__")) ∧ PySem.W.subIn K (.ref (ga K x)) (.type "object") = some true := by
  obtain ⟨h1, h2⟩ := ba h
  exact ⟨eqO_ok h1, of_decide_eq_true h2⟩
end
abbrev AlY : Type := AlD × Bool
def obsY (fa : List Fa) (fn : List DefD) (fx : List Fx) (K : PySem.W.Frag) : AlY := (obsD fa fn K, fx.all fun f => f.ok K)
def valY (fn : List DefD) : AlY := (valD fn, true)
def SaysY (fa : List Fa) (fn : List DefD) (fx : List Fx) (K : PySem.W.Frag) : Prop := obsY fa fn fx K = valY fn
def obsYG (n : Nat) (fa : List Fa) (fn : List DefD) (fx : List Fx) (g : Addr → Option Obj) : AlY := obsY fa fn fx (frG g (asD g n))
def hookY (n : Nat) (fa : List Fa) (fn : List DefD) (fx : List Fx) : PySem.W.Hook where
  α := AlY
  obs := fun s => obsYG n fa fn fx s.heap.get?
  val := fun _ => valY fn
  says := fun _ h => ∃ K : PySem.W.Frag, K.In h ∧ SaysY fa fn fx K
  of := fun _ _ e => ⟨_, frG_in, e⟩
  keeps := fun _ _ _ ⟨K, hK, c⟩ k => ⟨K, PySem.W.Frag.In.keeps hK k, c⟩
theorem obsYG_eq {n : Nat} {fa : List Fa} {fn : List DefD} {fx : List Fx} {g : Addr → Option Obj} {s : Shared} (h : ∀ a, g a = s.heap.get? a) : obsYG n fa fn fx g = (hookY n fa fn fx).obs s := by
  have e : g = s.heap.get? := funext h
  rw [e] <;> rfl
section
variable {fa : List Fa} {fn : List DefD} {fx : List Fx} {K : PySem.W.Frag}
theorem SaysY.d (c : SaysY fa fn fx K) : SaysD fa fn K := congrArg (fun z : AlY => z.1) c
theorem SaysY.x (c : SaysY fa fn fx K) (i : Nat) {f : Fx} (h : fx[i]? = some f := by rfl) : f.ok K = true :=
  List.all_eq_true.mp (congrArg (fun z : AlY => z.2) c) f (List.mem_of_getElem? h)
end
end Ly
end
section
set_option Elab.async false
set_option linter.all false
set_option maxRecDepth 100000
set_option maxHeartbeats 2000000
set_option autoImplicit false
/-! ### the head's facts of an own exception whose __init__ calls super().__init__(text) -/
namespace Ly
open PySem L2 PySem.Spec PyProof.Rows He PySem.W
section
variable {K : PySem.W.Frag} {C fI : Addr}
def clsB (K : PySem.W.Frag) (C : Addr) : Bool := match K.lookup C with
  | some ⟨.type "type", _, .cls cd, sl⟩ => (match cd.mro, sl.toList with
    | .ref C' :: bm, [_, _, _, _, some (.builtin n), _] => C' == C && n == "ValueError.__new__" && !cd.hasDel && cd.hasDict && PySem.HandSPX.refsVE bm
    | _, _ => false)
  | _ => false
theorem clsB_ok (q : clsB K C = true) : ∃ nm qn N bs bm sn sub ab col dd k0 k1 k2 k3 k5, K.lookup C = some (excClassObj nm qn C N bs bm true sn sub ab col dd k0 k1 k2 k3 k5 "ValueError.__new__") ∧ PySem.HandSPX.refsVE bm = true := by
  unfold clsB at q
  split at q
  · rename_i dd cd sl ho
    split at q
    · rename_i C' bm k0 k1 k2 k3 n k5 hm hs
      simp only [Bool.and_eq_true, beq_iff_eq, Bool.not_eq_true'] at q
      obtain ⟨⟨⟨⟨rfl, rfl⟩, hdel⟩, hdict⟩, ht⟩ := q
      obtain ⟨nm, bs, mro, ns, qn, hd, sn, sub, ab, col, del⟩ := cd
      dsimp only at hm hdel hdict
      subst hm hdel hdict
      have hsl : sl = #[k0, k1, k2, k3, some (.builtin "ValueError.__new__"), k5] := by
        obtain ⟨l⟩ := sl
        simp only at hs
        rw [hs]
      subst hsl
      exact ⟨nm, qn, ns, bs, bm, sn, sub, ab, col, dd, k0, k1, k2, k3, k5, ho, ht⟩
    · cases q
  · cases q
def initOf (K : PySem.W.Frag) (C : Addr) : Addr := match findIn K (.ref C) "__init__" with
  | some (some (.ref f)) => f
  | _ => 0
/-- the text of the def at f -/
def textOf (K : PySem.W.Frag) (f : Addr) : Option (Arguments × FuncBody × Scope) := match K.lookup f with
  | some ⟨_, _, .func fd, _⟩ => some (fd.params, fd.body, fd.scope)
  | _ => none
def isNone : Value → Bool
  | .none => true
  | _ => false
theorem isNone_ok {v : Value} (h : isNone v = true) : v = .none := by
  cases v <;> first | rfl | cases h
def fnB (mf : Str) (K : PySem.W.Frag) (C f : Addr) : Bool := match K.lookup f with
  | some ⟨_, _, .func fd, _⟩ => decide (fd.name = "__init__") && isNone fd.defaults && isNone fd.kwdefaults && decide (fd.globals = mainGlobals) && decide (fd.builtins = builtinsNs) && (match fd.closure with
      | [(n, cc)] => decide (n = "__class__") && (match K.lookup cc with
        | some ⟨_, _, .cell (some (.ref D)), _⟩ => decide (D = C)
        | _ => false)
      | _ => false) && (match fd.code with
      | .ref cda => codeIn K (.ref cda) fd.qualname && (match K.lookup cda with
        | some ⟨_, _, .fields vs, _⟩ => (match (vs[2]? : Option Value) with
          | some (.str file _) => (mf == file)
          | _ => false)
        | _ => false)
      | _ => false)
  | _ => false
def supB (mf : Str) (K : PySem.W.Frag) (C : Addr) : Bool :=
  clsB K C && decide (findIn K (.ref C) "__init__" = some (some (.ref (initOf K C)))) && decide (typeIn K (.ref (initOf K C)) = some (.type "function")) && keepIn K (.ref C) && decide (subIn K (.ref C) (.type "BaseException") = some true) &&
  decide (subIn K (.ref C) (.type "ValueError") = some true) && decide (typeIn K (.ref C) = some (.type "type")) && decide (exmOne K (.ref C) (.ref C) = some true) && decide (ks_superIn K C C "__init__" = some (some (.builtin "ValueError.__init__"))) &&
  decide (mroIn K C (.ref C) = some true) && decide (nsIn K cStatics "thirdparty.any" = some none) && fnB mf K C (initOf K C)
theorem fnB_ok {mf : Str} {f : Addr} (h : fnB mf K C f = true) {p1 q1 q2 q3 q4 q5 q6 : Pos} {txt : Str} {j : Nat} {ns : List (Str × NameKind)} (ht : textOf K f = some (SupX.iA p1, .stmts (SupX.iB txt j q1 q2 q3 q4 q5 q6), SupX.iS ns))
    (n1 : ns.lookup ("super" : Str) = some .globalImplicit) (n2 : ns.lookup ("__class__" : Str) = some .free) (n3 : ns.lookup ("self" : Str) = some .local) (n4 : ∀ x ∈ ns, x.2 ≠ .cell) (hl : (q3.endLine == q5.line) = true) :
    ∃ (oc : Value) (od : Option Addr) (q : Str) (ns : List (Str × NameKind)) (doc pm : Value) (an : Option Addr) (cda cc : Addr) (ct : Value) (osl : Array (Option Value)) (p1 q1 q2 q3 q4 q5 q6 : Pos) (txt : Str) (j : Nat),
    K.lookup f = some ⟨oc, od, .func (ksFn "__init__" q (SupX.iA p1) (SupX.iB txt j q1 q2 q3 q4 q5 q6) (SupX.iS ns) .none .none doc pm an (.ref cda) ct cc), osl⟩ ∧ codeIn K (.ref cda) q = true ∧
    (∃ ccl cdd vs ccs file tf, K.lookup cda = some ⟨ccl, cdd, .fields vs, ccs⟩ ∧ vs[2]? = some (.str file tf) ∧ (mf == file) = true) ∧
    (∃ cl cld csl, K.lookup cc = some ⟨cl, cld, .cell (some (.ref C)), csl⟩) ∧
    ns.lookup ("super" : Str) = some .globalImplicit ∧ ns.lookup ("__class__" : Str) = some .free ∧ ns.lookup ("self" : Str) = some .local ∧ (∀ x ∈ ns, x.2 ≠ .cell) ∧ (q3.endLine == q5.line) = true := by
  unfold fnB at h
  unfold textOf at ht
  split at h
  · rename_i oc od fd osl lk
    rw [lk] at ht
    obtain ⟨fname, fq, fp, fb, fs, fg, fcl, fdf, fkw, fdoc, fpm, fan, fco, fct, fbl⟩ := fd
    simp only [Option.some.injEq, Prod.mk.injEq] at ht
    obtain ⟨rfl, rfl, rfl⟩ := ht
    simp only [Bool.and_eq_true, decide_eq_true_eq] at h
    obtain ⟨⟨⟨⟨⟨⟨h1, h2⟩, h3⟩, h4⟩, h5⟩, h6⟩, h7⟩ := h
    have h2 := isNone_ok h2
    have h3 := isNone_ok h3
    subst h1 h2 h3 h4 h5
    split at h6
    · rename_i nn cc
      simp only [Bool.and_eq_true, decide_eq_true_eq] at h6
      obtain ⟨rfl, h6⟩ := h6
      split at h6
      · rename_i cl cld D csl lc
        have h6 := of_decide_eq_true h6
        subst h6
        split at h7
        · rename_i cda
          simp only [Bool.and_eq_true] at h7
          obtain ⟨h7, h8⟩ := h7
          split at h8
          · rename_i ccl cdd vs ccs lcd
            split at h8
            · rename_i file tf hv
              exact ⟨oc, od, fq, ns, fdoc, fpm, fan, cda, cc, fct, osl, p1, q1, q2, q3, q4, q5, q6, txt, j, lk, h7, ⟨ccl, cdd, vs, ccs, file, tf, lcd, hv, h8⟩, ⟨cl, cld, csl, lc⟩, n1, n2, n3, n4, hl⟩
            · cases h8
          · cases h8
        · cases h7
      · cases h6
    · cases h6
  · cases h
theorem supB_ok {P : Program} {mg : Str → Option Value} {x : Str} (h : supB P.main.file K C = true) (gC : mg x = some (.ref C)) (gS : mg "super" = none) {p1 q1 q2 q3 q4 q5 q6 : Pos} {txt : Str} {j : Nat} {ns : List (Str × NameKind)}
    (ht : textOf K (initOf K C) = some (SupX.iA p1, .stmts (SupX.iB txt j q1 q2 q3 q4 q5 q6), SupX.iS ns))
    (n1 : ns.lookup ("super" : Str) = some .globalImplicit) (n2 : ns.lookup ("__class__" : Str) = some .free) (n3 : ns.lookup ("self" : Str) = some .local) (n4 : ∀ x ∈ ns, x.2 ≠ .cell) (hl : (q3.endLine == q5.line) = true)
    (top : (P.main.scope.names.lookup ("super" : Str)).isSome = false) : SupX.SupTxt P K mg x C (initOf K C) := by
  unfold supB at h
  simp only [Bool.and_eq_true, decide_eq_true_eq] at h
  obtain ⟨⟨⟨⟨⟨⟨⟨⟨⟨⟨⟨h1, h2⟩, h3⟩, h4⟩, h5⟩, h6⟩, h7⟩, h8⟩, h9⟩, h10⟩, h11⟩, h12⟩ := h
  exact { gC := gC, gS := gS, cls := clsB_ok h1, iC := h2, tC := h3, kC := h4, exC := h5, veC := h6, tyC := h7, te := h8, sup := h9, mr := h10, opq := h11, fn := fnB_ok h12 ht n1 n2 n3 n4 hl, top := top }
end
/-! the Hook: HeadHook4's, and the text of such an __init__ -/
abbrev TxtO : Type := Option (Arguments × FuncBody × Scope)
def frS (n : Nat) (g : Addr → Option Obj) : PySem.W.Frag := frT g (cStatics :: asD g n)
def obsS (n : Nat) (fa : List Fa) (fn : List DefD) (tf : List Defn) (ex : PySem.W.Frag → Bool) (x : Str) (g : Addr → Option Obj) : AlX × TxtO := ((obsT fa fn [] (frS n g), ex (frS n g) && tabsB g tf (frS n g)), textOf (frS n g) (initOf (frS n g) (ga (frS n g) x)))
theorem saysS_of {n : Nat} {fa : List Fa} {fn : List DefD} {tf : List Defn} {ex : PySem.W.Frag → Bool} {w : World} {h : Heap} (e : (obsT fa fn [] (frS n h.get?), ex (frS n h.get?) && tabsB h.get? tf (frS n h.get?)) = valX fn [] w) : SaysX fa fn [] tf ex w h (frS n h.get?) := by
  have e2 : (ex (frS n h.get?) && tabsB h.get? tf (frS n h.get?)) = true := congrArg (fun z : AlX => z.2) e
  obtain ⟨h1, h2⟩ := ba e2
  have tab : ∀ q ∈ tf, PySem.W.codeHdIn (frS n h.get?) (cT (frS n h.get?) q).1 (cT (frS n h.get?) q).2 = true ∧ ∃ o, h.get? (cT (frS n h.get?) q).2 = some o ∧ emptyTab o = true := by
    intro q hq
    have z := List.all_eq_true.mp h2 q hq
    rw [Bool.and_eq_true] at z
    refine ⟨z.1, ?_⟩
    have z2 := z.2
    split at z2
    · rename_i o ho
      exact ⟨o, ho, z2⟩
    · cases z2
  refine ⟨congrArg (fun z : AlX => z.1) e, h1, fun q hq => (tab q hq).1, fun q hq => ?_, fun q hq => ?_⟩
  · obtain ⟨o, ho, he⟩ := (tab q hq).2
    exact frT_none ho he
  · obtain ⟨o, ho, he⟩ := (tab q hq).2
    rw [ho, emptyTab_eq he]
def hookS (n : Nat) (fa : List Fa) (fn : List DefD) (tf : List Defn) (ex : PySem.W.Frag → Bool) (x : Str) (tx : TxtO) : PySem.W.Hook where
  α := AlX × TxtO
  obs := fun s => obsS n fa fn tf ex x s.heap.get?
  val := fun w => (valX fn [] w, tx)
  says := fun w h => ∃ K : PySem.W.Frag, K.In h ∧ SaysX fa fn [] tf ex w h K ∧ textOf K (initOf K (ga K x)) = tx
  of := fun _ _ e => ⟨_, frT_in, saysS_of (congrArg (fun z : AlX × TxtO => z.1) e), congrArg (fun z : AlX × TxtO => z.2) e⟩
  keeps := fun _ _ _ ⟨K, hK, c, t⟩ k => ⟨K, PySem.W.Frag.In.keeps hK k, ⟨c.t, c.more, c.hd, c.out, fun p hp => k _ _ (c.empty p hp)⟩, t⟩
theorem obsS_eq {n : Nat} {fa : List Fa} {fn : List DefD} {tf : List Defn} {ex : PySem.W.Frag → Bool} {x : Str} {tx : TxtO} {g : Addr → Option Obj} {s : Shared} (h : ∀ a, g a = s.heap.get? a) : obsS n fa fn tf ex x g = (hookS n fa fn tf ex x tx).obs s := by
  have e : g = s.heap.get? := funext h
  rw [e] <;> rfl
end Ly
end
section
set_option Elab.async false
set_option linter.all false
set_option maxRecDepth 100000
set_option maxHeartbeats 2000000
set_option autoImplicit false
/-! ### the end, where the law's body asks that no repr is under way: its run is told at callerA alone -/
namespace Ly
open PySem PySem.Spec PyProof.Rows L2 LamX
/-- what the law's run asks: one table, empty, and the script -/
def RunG (P : Program) (w : World) (K : PySem.W.Frag) (mg : Str → Option Value) (fa a c Pt : Addr) (ns : List Int) (s : Shared) : Prop :=
  ∀ (base : Heap) (H : Hp), K.In base → base.Ns mainGlobals mg → TabB base mg c Pt → Env0 P w K mg base callerA [] s H → H Pt = some (.tbl #[]) → SqL K H a (ns.map V.int) →
    codeAny (model P w) callerA (.call (.ref fa) ⟨[.ref a], []⟩) (CR CX0 [] P w H s (fun v _ => v = .bl true) fun _ _ _ => False) s
section
variable {P : Program} {w : World} {K : PySem.W.Frag} {mg mb : Str → Option Value} {fa a c Pt : Addr} {s : Shared} {vs : List Value} {ns : List Int}
/-- the heap of what is tracked: the table, and the script where it is no object of the text -/
def hp0 (a Pt : Addr) (fr : Bool) (vs : List Value) (ns : List Int) : Hp := fun b => if b = Pt then some (.tbl #[]) else if fr = true ∧ b = a then some (.frz { cls := .type "list", data := .seq vs.toArray } (.lst (ns.map V.int))) else none
theorem hp0_tab {fr : Bool} : hp0 a Pt fr vs ns Pt = some (.tbl #[]) := if_pos rfl
theorem hp0_cases {fr : Bool} {b : Addr} : (b = Pt ∧ hp0 a Pt fr vs ns b = some (.tbl #[])) ∨ (fr = true ∧ b = a ∧ hp0 a Pt fr vs ns b = some (.frz { cls := .type "list", data := .seq vs.toArray } (.lst (ns.map V.int)))) ∨ hp0 a Pt fr vs ns b = none := by
  by_cases h1 : b = Pt
  · exact .inl ⟨h1, if_pos h1⟩
  · by_cases h2 : fr = true ∧ b = a
    · exact .inr (.inl ⟨h2.1, h2.2, (if_neg h1).trans (if_pos h2)⟩)
    · exact .inr (.inr ((if_neg h1).trans (if_neg h2)))
theorem law_runG (KX : K.In s.heap) (hns : s.heap.Ns mainGlobals mg) (hb : s.heap.Ns builtinsNs mb) (hbb : ∀ x : Str, x ≠ "__name__" → mb x = bootBuiltins x) (hlim : s.heap.NoLimit) (hg : s.gens = #[])
    (hT : s.heap.get? Pt = some { cls := .none, data := .fields #[] }) (nT : K.lookup Pt = none) (C : PySem.W.CodeHd s.heap c Pt)
    (hbm : ∃ (bm : Addr) (ob : Obj), mg "__builtins__" = some (.ref bm) ∧ bm ≠ builtinsNs ∧ s.heap.get? bm = some ob ∧ ob.cls = .type "module" ∧ ob.dict = some builtinsNs ∧ ob.data = .plain)
    (ha : s.heap.get? a = some { cls := .type "list", data := .seq vs.toArray }) (hi : IntsAre vs ns) (hl : ns.length ≤ sizeLine) (F : RunG P w K mg fa a c Pt ns s) :
    codeAny (model P w) callerA (.call (.ref fa) ⟨[.ref a], []⟩) (fun r s' => r = .ok (.ret (.bool true)) ∧ OldK s.heap s'.heap ∧ s'.os = s.os ∧ AllBare s'.gens) s := by
  have rv := vals_ints hi
  have lenV := hi.length
  -- the script is tracked unless the text holds it
  obtain ⟨fr, hfr, hS⟩ : ∃ fr : Bool, (fr = true → K.lookup a = none) ∧ SqL K (hp0 a Pt fr vs ns) a (ns.map V.int) := by
    have aP : a ≠ Pt := fun z => by
      rw [z, hT] at ha
      cases ha
    cases hk : K.lookup a with
    | some o =>
      have e := KX a o hk
      rw [ha] at e
      cases e
      exact ⟨false, (fun z => nomatch z), .inr ⟨_, vs.toArray, _, hk, rfl, rfl, rfl, by rw [List.size_toArray, lenV]; exact hl, by simpa using rv⟩⟩
    | none => exact ⟨true, fun _ => rfl, .inl (.inr ⟨{ cls := .type "list", data := .seq vs.toArray }, (if_neg aP).trans (if_pos ⟨rfl, rfl⟩)⟩)⟩
  have seen : ∀ {b : Addr} {o : Obj}, s.heap.get? b = some o → (∀ us n, o.data ≠ .seq us n) → o.data ≠ .fields #[] → hp0 a Pt fr vs ns b = none := fun {b o} e h1 h2 => by
    rcases hp0_cases (a := a) (Pt := Pt) (vs := vs) (ns := ns) (fr := fr) (b := b) with ⟨z, _⟩ | ⟨_, z, _⟩ | z
    · rw [z, hT] at e
      cases e
      exact (h2 rfl).elim
    · rw [z, ha] at e
      cases e
      exact (h1 _ _ rfl).elim
    · exact z
  have base_of : ∀ {b : Addr} {o : Obj}, s.heap.get? b = some o → hp0 a Pt fr vs ns b = none → (hidT s.heap (hp0 a Pt fr vs ns)).get? b = some o := fun e n => hidT_get e n
  have nsK : ∀ {b : Addr} {m : Str → Option Value}, s.heap.Ns b m → (hidT s.heap (hp0 a Pt fr vs ns)).Ns b m := fun {b m} ⟨o, es, ep, e, d, r⟩ => ⟨o, es, ep, base_of e (seen e (fun us n z => by rw [d] at z; cases z) fun z => by rw [d] at z; cases z), d, r⟩
  have hok : HOk P w (hp0 a Pt fr vs ns) s.heap := fun b u e => by
    rcases hp0_cases (a := a) (Pt := Pt) (vs := vs) (ns := ns) (fr := fr) (b := b) with ⟨z, q⟩ | ⟨_, z, q⟩ | q
    · rw [q] at e
      cases e
      rw [z]
      exact hT
    · rw [q] at e
      cases e
      rw [z]
      exact ⟨ha, by rw [List.length_map]; exact hl, vs, _, rv, ha⟩
    · rw [q] at e
      cases e
  have hK : K.In (hidT s.heap (hp0 a Pt fr vs ns)) := fun b o e => base_of (KX b o e) (by
    rcases hp0_cases (a := a) (Pt := Pt) (vs := vs) (ns := ns) (fr := fr) (b := b) with ⟨z, q⟩ | ⟨f, z, q⟩ | q
    · rw [z, nT] at e
      cases e
    · rw [z, hfr f] at e
      cases e
    · exact q)
  have hM : L2.Mod K mg (hidT s.heap (hp0 a Pt fr vs ns)) := ⟨hK, nsK hns, ⟨mb, nsK hb, hbb⟩, let ⟨mc, h1, h2⟩ := hlim; ⟨mc, nsK h1, h2⟩⟩
  have TB : TabB (hidT s.heap (hp0 a Pt fr vs ns)) mg c Pt := by
    refine ⟨?_, ?_, fun z => ?_⟩
    · obtain ⟨o, us, file, tf, flags, tg, inF, text, tt, e1, r1, r2, r3, r4⟩ := C
      refine ⟨o, us, file, tf, flags, tg, inF, text, tt, base_of e1 (seen e1 (fun us n z => by rw [r2] at z; cases z) fun z => ?_), r1, r2, r3, r4⟩
      rw [r2] at z
      cases z
      simp at r3
    · obtain ⟨bm, ob, b1, b2, b3, b4, b5, b6⟩ := hbm
      refine ⟨bm, ob, b1, b2, fun q => ?_, fun q => ?_, base_of b3 (seen b3 (fun us n z => by rw [b6] at z; cases z) fun z => by rw [b6] at z; cases z), b4, b5, b6⟩
      · obtain ⟨o, es, ep, e, hd, _⟩ := hns
        rw [q, e] at b3
        cases b3
        rw [hd] at b6
        cases b6
      · rw [q, hT] at b3
        cases b3
        cases b6
    · obtain ⟨o, es, ep, e, hd, _⟩ := hns
      rw [z, hT] at e
      cases e
      cases hd
  have e0 : Env0 P w K mg (hidT s.heap (hp0 a Pt fr vs ns)) callerA [] s (hp0 a Pt fr vs ns) := ⟨rfl, hM, fun b o e => of_hidT e, Nat.le_of_eq (hidT_size _ _), trivial, fun b hb => absurd (show b ∈ ([] : List Addr) from hb) (by simp), hok, .of_eq hg⟩
  refine codeAny_mono (F _ _ hK (nsK hns) TB e0 hp0_tab hS) fun r s' h => ?_
  match r, h with
  | .error e, h => exact False.elim h
  | .ok .next, h => exact False.elim h
  | .ok .brk, h => exact False.elim h
  | .ok .cont, h => exact False.elim h
  | .ok (.ret u), ⟨v, H', os, bare, un, hok', r', q⟩ =>
    have q : v = .bl true := q
    subst q
    obtain rfl : u = Value.bool true := r'
    obtain ⟨more, z⟩ := un.tbls Pt #[] hp0_tab
    have hm : s'.heap.get? Pt = some { cls := .none, data := .fields (#[] ++ more) } := hok' Pt _ z
    have key : ∀ b o, b ≠ Pt → s.heap.get? b = some o → s'.heap.get? b = some o := fun b o nb e => by
      rcases hp0_cases (a := a) (Pt := Pt) (vs := vs) (ns := ns) (fr := fr) (b := b) with ⟨z, _⟩ | ⟨_, z, q⟩ | q
      · exact absurd z nb
      · obtain ⟨e1, _⟩ := hok b _ q
        obtain ⟨e2, _⟩ := hok' b _ (un.frzs b _ _ q)
        rw [e] at e1
        cases e1
        exact e2
      · exact un.keep b o e q (fun z => absurd (show b ∈ ([] : List Addr) from z) (by simp)) (by simp)
    refine ⟨rfl, ⟨fun b o e => ?_, fun b o e => ?_⟩, os, bare⟩
    · by_cases hb : b = Pt
      · rw [hb] at e ⊢
        rw [hT] at e
        cases e
        exact .inr (.inl ⟨(C.tab hT).isCodeTable, rfl, #[], more, rfl, hm⟩)
      · exact .inl (key b o hb e)
    · by_cases hb : b = Pt
      · rw [hb]
        exact ⟨_, hm⟩
      · exact ⟨o, key b o hb e⟩
end
/-- the end by a Hook, for such a law -/
theorem walk_ofG {l : PySem.W.OpenLaw} {n : Nat} {q : Program} {loose : List Str} {XP : (Str → Option Value) → Heap → Prop} {YP : World → Heap → Prop} {d : DefRec} (hn : l.most = some n) (hn2 : n ≤ sizeLine) (hdf : d.params.defaults = [])
    (F : ∀ (w : World) (mg : Str → Option Value) (fa : Addr) (h : Heap), YP w h → h.Ns mainGlobals mg → mg d.name = some (.ref fa) → ∃ (K : PySem.W.Frag) (c Pt : Addr), K.In h ∧ h.get? Pt = some { cls := .none, data := .fields #[] } ∧ K.lookup Pt = none ∧ PySem.W.CodeHd h c Pt ∧
      ∀ (s : Shared) (a : Addr) (ns : List Int), ns.length ≤ n → RunG l.prog w K mg fa a c Pt ns s) :
    PySem.W.WalkO q loose XP YP l.row.toRowW d [] (fun f vs => PySem.call f vs) := by
  refine Att.attach_callB hn hdf fun w s₀ s₁ mg mb fa o pm cd doc a vs ns G Y ho hd hcd hmg hobj hints hlen hbits hg => ?_
  obtain ⟨K, c, Pt, KX, hT, nT, C, hF⟩ := F w mg fa _ Y G.T.g hmg
  exact law_runG KX G.T.g G.T.b G.T.builtins G.T.nolimit hg hT nT C G.T.bmain hobj hints (Nat.le_trans hlen hn2) (hF s₁ a ns hlen)
end Ly
end
section
set_option Elab.async false
set_option linter.all false
set_option maxRecDepth 100000
set_option maxHeartbeats 4000000
set_option autoImplicit false
namespace Wk
open PySem L2 Ly Mx

def fa : List He.Fa := [.free "LookupError", .free "ValueError", .free "abs", .free "all", .free "any", .free "bool", .free "enumerate", .free "int", .free "isinstance", .free "len", .free "list", .free "max", .free "min", .free "range", .free "repr", .free "sorted", .free "sum", .free "super", .free "tuple", .free "zip", .glo "Ground", .cls "Ground", .noat "Ground" "length", .noat "Ground" "prime", .glo "Nest", .cls "Nest", .noat "Nest" "own_codes", .noat "Nest" "own_ground", .glo "Part", .cls "Part", .noat "Part" "own_codes", .noat "Part" "own_ground", .glo "NestError", .glo "NameMissing", .glo "UnlikeGrounds", .glo "BadGround", .glo "BadCode", .glo "BadNest", .glo "BadPart", .glo "NoLevel", .glo "_law_source", .glo "_law_pick", .glo "_law_of", .glo "is_number", .glo "is_prime", .mkr "Ground", .glo "_law_ground", .glo "_law_any_ground", .glo "_law_plus", .glo "_law_pivot", .glo "_law_inverse", .glo "_law_reduced", .glo "_law_codes", .glo "_law_units", .glo "_law_mixed", .glo "_law_base", .glo "_law_part", .glo "_law_any_order", .glo "_law_second", .glo "_law_near_pair", .meth "Ground" "n", .meth "Ground" "p", .glo "wrong_entry", .glo "pivot", .glo "check_code", .glo "code_fault", .glo "subtracted", .glo "scaled", .glo "without", .glo "rest", .meth "Ground" "zero", .glo "is_in", .glo "is_within", .glo "first_wrong_parts", .mkr "Part", .meth "Ground" "__eq__", .meth "Part" "ground", .glo "check_alike", .meth "Ground" "units", .meth "Part" "codes", .glo "steps_of", .glo "tops_of", .meth "Ground" "inverse_of", .glo "reduced", .glo "code_of", .glo "common", .glo "part_table", .glo "_law_whole", .glo "_law_tops", .glo "_law_joined", .glo "_law_cross", .meth "Part" "ranks", .meth "Part" "blocks", .glo "first_wrong_nests", .mkr "Nest", .glo "_law_pair", .meth "Nest" "codes", .glo "_law_far", .glo "part_frame", .glo "law", .glo "_law_is_unlike"]
def dd0 : He.DefD := (⟨("_law_source", none), "_law_source", "_law_source", defArgs (top 49), defBody (top 49), defScope (top 49), [], []⟩ : He.DefD)
def dd1 : He.DefD := (⟨("_law_pick", none), "_law_pick", "_law_pick", defArgs (top 50), defBody (top 50), defScope (top 50), [], []⟩ : He.DefD)
def dd2 : He.DefD := (⟨("_law_of", none), "_law_of", "_law_of", defArgs (top 51), defBody (top 51), defScope (top 51), [], []⟩ : He.DefD)
def dd3 : He.DefD := (⟨("is_number", none), "is_number", "is_number", defArgs (top 10), defBody (top 10), defScope (top 10), [], []⟩ : He.DefD)
def dd4 : He.DefD := (⟨("is_prime", none), "is_prime", "is_prime", defArgs (top 12), defBody (top 12), defScope (top 12), [], []⟩ : He.DefD)
def dd5 : He.DefD := (⟨("Ground", some "__init__"), "__init__", "Ground.__init__", defArgs (inClass (top 13) 0), defBody (inClass (top 13) 0), defScope (inClass (top 13) 0), [], []⟩ : He.DefD)
def dd6 : He.DefD := (⟨("_law_ground", none), "_law_ground", "_law_ground", defArgs (top 53), defBody (top 53), defScope (top 53), [], []⟩ : He.DefD)
def dd7 : He.DefD := (⟨("_law_any_ground", none), "_law_any_ground", "_law_any_ground", defArgs (top 65), defBody (top 65), defScope (top 65), [], []⟩ : He.DefD)
def dd8 : He.DefD := (⟨("_law_plus", none), "_law_plus", "_law_plus", defArgs (top 54), defBody (top 54), defScope (top 54), [], []⟩ : He.DefD)
def dd9 : He.DefD := (⟨("_law_pivot", none), "_law_pivot", "_law_pivot", defArgs (top 57), defBody (top 57), defScope (top 57), [], []⟩ : He.DefD)
def dd10 : He.DefD := (⟨("_law_inverse", none), "_law_inverse", "_law_inverse", defArgs (top 56), defBody (top 56), defScope (top 56), [], []⟩ : He.DefD)
def dd11 : He.DefD := (⟨("_law_reduced", none), "_law_reduced", "_law_reduced", defArgs (top 58), defBody (top 58), defScope (top 58), [], []⟩ : He.DefD)
def dd12 : He.DefD := (⟨("_law_codes", none), "_law_codes", "_law_codes", defArgs (top 60), defBody (top 60), defScope (top 60), [], []⟩ : He.DefD)
def dd13 : He.DefD := (⟨("_law_units", none), "_law_units", "_law_units", defArgs (top 55), defBody (top 55), defScope (top 55), [], []⟩ : He.DefD)
def dd14 : He.DefD := (⟨("_law_mixed", none), "_law_mixed", "_law_mixed", defArgs (top 52), defBody (top 52), defScope (top 52), [], []⟩ : He.DefD)
def dd15 : He.DefD := (⟨("_law_base", none), "_law_base", "_law_base", defArgs (top 59), defBody (top 59), defScope (top 59), [], []⟩ : He.DefD)
def dd16 : He.DefD := (⟨("_law_part", none), "_law_part", "_law_part", defArgs (top 67), defBody (top 67), defScope (top 67), [], []⟩ : He.DefD)
def dd17 : He.DefD := (⟨("_law_any_order", none), "_law_any_order", "_law_any_order", defArgs (top 62), defBody (top 62), defScope (top 62), [], []⟩ : He.DefD)
def dd18 : He.DefD := (⟨("_law_second", none), "_law_second", "_law_second", defArgs (top 63), defBody (top 63), defScope (top 63), [], []⟩ : He.DefD)
def dd19 : He.DefD := (⟨("_law_near_pair", none), "_law_near_pair", "_law_near_pair", defArgs (top 72), defBody (top 72), defScope (top 72), [], []⟩ : He.DefD)
def dd20 : He.DefD := (⟨("Ground", some "n"), "n", "Ground.n", defArgs (inClass (top 13) 3), defBody (inClass (top 13) 3), defScope (inClass (top 13) 3), [], []⟩ : He.DefD)
def dd21 : He.DefD := (⟨("Ground", some "p"), "p", "Ground.p", defArgs (inClass (top 13) 2), defBody (inClass (top 13) 2), defScope (inClass (top 13) 2), [], []⟩ : He.DefD)
def dd22 : He.DefD := (⟨("wrong_entry", none), "wrong_entry", "wrong_entry", defArgs (top 22), defBody (top 22), defScope (top 22), [], []⟩ : He.DefD)
def dd23 : He.DefD := (⟨("pivot", none), "pivot", "pivot", defArgs (top 17), defBody (top 17), defScope (top 17), [], []⟩ : He.DefD)
def dd24 : He.DefD := (⟨("check_code", none), "check_code", "check_code", defArgs (top 23), defBody (top 23), defScope (top 23), [], []⟩ : He.DefD)
def dd25 : He.DefD := (⟨("code_fault", none), "code_fault", "code_fault", defArgs (top 32), defBody (top 32), defScope (top 32), [], []⟩ : He.DefD)
def dd26 : He.DefD := (⟨("subtracted", none), "subtracted", "subtracted", defArgs (top 16), defBody (top 16), defScope (top 16), [], []⟩ : He.DefD)
def dd27 : He.DefD := (⟨("scaled", none), "scaled", "scaled", defArgs (top 15), defBody (top 15), defScope (top 15), [], []⟩ : He.DefD)
def dd28 : He.DefD := (⟨("without", none), "without", "without", defArgs (top 19), defBody (top 19), defScope (top 19), [], []⟩ : He.DefD)
def dd29 : He.DefD := (⟨("rest", none), "rest", "rest", defArgs (top 25), defBody (top 25), defScope (top 25), [], []⟩ : He.DefD)
def dd30 : He.DefD := (⟨("Ground", some "zero"), "zero", "Ground.zero", defArgs (inClass (top 13) 4), defBody (inClass (top 13) 4), defScope (inClass (top 13) 4), [], []⟩ : He.DefD)
def dd31 : He.DefD := (⟨("is_in", none), "is_in", "is_in", defArgs (top 26), defBody (top 26), defScope (top 26), [], []⟩ : He.DefD)
def dd32 : He.DefD := (⟨("is_within", none), "is_within", "is_within", defArgs (top 27), defBody (top 27), defScope (top 27), [], []⟩ : He.DefD)
def dd33 : He.DefD := (⟨("first_wrong_parts", none), "first_wrong", "first_wrong", defArgs (top 40), defBody (top 40), defScope (top 40), [], []⟩ : He.DefD)
def dd34 : He.DefD := (⟨("Part", some "__init__"), "__init__", "Part.__init__", defArgs (inClass (top 42) 0), defBody (inClass (top 42) 0), defScope (inClass (top 42) 0), [], []⟩ : He.DefD)
def dd35 : He.DefD := (⟨("Ground", some "__eq__"), "__eq__", "Ground.__eq__", defArgs (inClass (top 13) 1), defBody (inClass (top 13) 1), defScope (inClass (top 13) 1), [], []⟩ : He.DefD)
def dd36 : He.DefD := (⟨("Part", some "ground"), "ground", "Part.ground", defArgs (inClass (top 42) 2), defBody (inClass (top 42) 2), defScope (inClass (top 42) 2), [], []⟩ : He.DefD)
def dd37 : He.DefD := (⟨("check_alike", none), "check_alike", "check_alike", defArgs (top 37), defBody (top 37), defScope (top 37), [], []⟩ : He.DefD)
def dd38 : He.DefD := (⟨("Ground", some "units"), "units", "Ground.units", defArgs (inClass (top 13) 5), defBody (inClass (top 13) 5), defScope (inClass (top 13) 5), [], []⟩ : He.DefD)
def dd39 : He.DefD := (⟨("Part", some "codes"), "codes", "Part.codes", defArgs (inClass (top 42) 3), defBody (inClass (top 42) 3), defScope (inClass (top 42) 3), [], []⟩ : He.DefD)
def dd40 : He.DefD := (⟨("steps_of", none), "steps_of", "steps_of", defArgs (top 38), defBody (top 38), defScope (top 38), [], []⟩ : He.DefD)
def dd41 : He.DefD := (⟨("tops_of", none), "tops_of", "tops_of", defArgs (top 44), defBody (top 44), defScope (top 44), [], []⟩ : He.DefD)
def dd42 : He.DefD := (⟨("Ground", some "inverse_of"), "inverse_of", "Ground.inverse_of", defArgs (inClass (top 13) 6), defBody (inClass (top 13) 6), defScope (inClass (top 13) 6), [], []⟩ : He.DefD)
def dd43 : He.DefD := (⟨("reduced", none), "reduced", "reduced", defArgs (top 20), defBody (top 20), defScope (top 20), [], []⟩ : He.DefD)
def dd44 : He.DefD := (⟨("code_of", none), "code_of", "code_of", defArgs (top 24), defBody (top 24), defScope (top 24), [], []⟩ : He.DefD)
def dd45 : He.DefD := (⟨("common", none), "common", "common", defArgs (top 29), defBody (top 29), defScope (top 29), [], []⟩ : He.DefD)
def dd46 : He.DefD := (⟨("part_table", none), "part_table", "part_table", defArgs (top 45), defBody (top 45), defScope (top 45), [], []⟩ : He.DefD)
def dd47 : He.DefD := (⟨("_law_whole", none), "_law_whole", "_law_whole", defArgs (top 61), defBody (top 61), defScope (top 61), [], []⟩ : He.DefD)
def dd48 : He.DefD := (⟨("_law_tops", none), "_law_tops", "_law_tops", defArgs (top 68), defBody (top 68), defScope (top 68), [], []⟩ : He.DefD)
def dd49 : He.DefD := (⟨("_law_joined", none), "_law_joined", "_law_joined", defArgs (top 66), defBody (top 66), defScope (top 66), [], []⟩ : He.DefD)
def dd50 : He.DefD := (⟨("_law_cross", none), "_law_cross", "_law_cross", defArgs (top 71), defBody (top 71), defScope (top 71), [], []⟩ : He.DefD)
def dd51 : He.DefD := (⟨("Part", some "ranks"), "ranks", "Part.ranks", defArgs (inClass (top 42) 4), defBody (inClass (top 42) 4), defScope (inClass (top 42) 4), [], []⟩ : He.DefD)
def dd52 : He.DefD := (⟨("Part", some "blocks"), "blocks", "Part.blocks", defArgs (inClass (top 42) 5), defBody (inClass (top 42) 5), defScope (inClass (top 42) 5), [], []⟩ : He.DefD)
def dd53 : He.DefD := (⟨("first_wrong_nests", none), "first_wrong", "first_wrong", defArgs (top 33), defBody (top 33), defScope (top 33), [], []⟩ : He.DefD)
def dd54 : He.DefD := (⟨("Nest", some "__init__"), "__init__", "Nest.__init__", defArgs (inClass (top 35) 0), defBody (inClass (top 35) 0), defScope (inClass (top 35) 0), [], []⟩ : He.DefD)
def dd55 : He.DefD := (⟨("_law_pair", none), "_law_pair", "_law_pair", defArgs (top 64), defBody (top 64), defScope (top 64), [], []⟩ : He.DefD)
def dd56 : He.DefD := (⟨("Nest", some "codes"), "codes", "Nest.codes", defArgs (inClass (top 35) 3), defBody (inClass (top 35) 3), defScope (inClass (top 35) 3), [], []⟩ : He.DefD)
def dd57 : He.DefD := (⟨("_law_far", none), "_law_far", "_law_far", defArgs (top 69), defBody (top 69), defScope (top 69), [], []⟩ : He.DefD)
def dd58 : He.DefD := (⟨("part_frame", none), "part_frame", "part_frame", defArgs (top 47), defBody (top 47), defScope (top 47), [], []⟩ : He.DefD)
def dd59 : He.DefD := (⟨("_law_is_unlike", none), "_law_is_unlike", "_law_is_unlike", defArgs (top 70), defBody (top 70), defScope (top 70), [], []⟩ : He.DefD)
def dd60 : He.DefD := (⟨("law", none), "law", "law", defArgs (top 73), defBody (top 73), defScope (top 73), [], []⟩ : He.DefD)
def fn : List He.DefD := [dd0, dd1, dd2, dd3, dd4, dd5, dd6, dd7, dd8, dd9, dd10, dd11, dd12, dd13, dd14, dd15, dd16, dd17, dd18, dd19, dd20, dd21, dd22, dd23, dd24, dd25, dd26, dd27, dd28, dd29, dd30, dd31, dd32, dd33, dd34, dd35, dd36, dd37, dd38, dd39, dd40, dd41, dd42, dd43, dd44, dd45, dd46, dd47, dd48, dd49, dd50, dd51, dd52, dd53, dd54, dd55, dd56, dd57, dd58, dd59, dd60]
def fx : List Fx := [.isa "Ground", .isa "Nest", .isa "Part", .ne "Ground"]
def loose0 : List PySem.Str := ["NestError", "NameMissing", "UnlikeGrounds", "BadGround", "BadCode", "BadNest", "BadPart", "NoLevel", "is_number", "is_prime", "Ground", "scaled"]
def loose1 : List PySem.Str := ["subtracted", "pivot", "without", "reduced", "wrong_entry", "check_code", "code_of", "rest", "is_in", "is_within", "common", "joined"]
def loose2 : List PySem.Str := ["code_fault", "first_wrong", "first_wrong_nests", "Nest", "check_alike", "steps_of", "first_wrong_parts", "Part", "tops_of", "part_table", "beyond_rows", "part_frame"]
def loose3 : List PySem.Str := ["_law_source", "_law_pick", "_law_of", "_law_mixed", "_law_ground", "_law_plus", "_law_units", "_law_inverse", "_law_pivot", "_law_reduced", "_law_base", "_law_codes"]
def loose4 : List PySem.Str := ["_law_whole", "_law_any_order", "_law_second", "_law_pair", "_law_any_ground", "_law_joined", "_law_part", "_law_tops", "_law_far", "_law_is_unlike", "_law_cross", "_law_near_pair"]
abbrev R : PySem.W.OpenRow := PySem.W.OpenLaw.row PySem.Challenge.rw_codenests_k75_cross_tables
abbrev mf : PySem.Str := PySem.Challenge.rw_codenests_k75_cross_tables.prog.main.file
def ex (K : PySem.W.Frag) : Bool := (fx.all fun f => f.ok K) && supB mf K (He.ga K "UnlikeGrounds")
abbrev tx : TxtO := some (defArgs (inClass (top 3) 0), .stmts (defBody (inClass (top 3) 0)), defScope (inClass (top 3) 0))
abbrev tf : List He.Defn := [("law", none)]
abbrev hk : PySem.W.Hook := hookS 4 fa fn tf ex "UnlikeGrounds" tx
def ob (s : PySem.W.SharedT) : He.AlX × TxtO := obsS 4 fa fn tf ex "UnlikeGrounds" (HandSHeadRun.getT s)
theorem ob_eq (s : PySem.W.SharedT) : ob s = hk.obs s.abs := obsS_eq (HandSHeadRun.getT_eq s)
theorem run (w : World) : HandSHeadRun.RunEq R (PySem.W.view R.prog [73]) hk ob 30000 (loose0 ++ loose1 ++ loose2 ++ loose3 ++ loose4) w := by
  intro os
  kernel_rfl
theorem facts {w : World} {K : PySem.W.Frag} {h : Heap} {mg : Str → Option Value} {f : Addr} (X : K.In h) (Gm : h.Ns mainGlobals mg) (hfa : mg ("law" : Str) = some (.ref f)) (x : He.SaysX fa fn [] tf ex w h K) (htx : textOf K (initOf K (He.ga K "UnlikeGrounds")) = tx) (s : Shared) (a : Addr) (ns : List Int) (hlen : ns.length ≤ 63) :
    RunG PySem.Challenge.rw_codenests_k75_cross_tables.prog w K mg f a (He.cT K ("law", none)).1 (He.cT K ("law", none)).2 ns s := by
  have c := x.t.d
  have hex : (fx.all fun f => f.ok K) = true ∧ supB mf K (He.ga K "UnlikeGrounds") = true := by
    have z := x.more
    unfold ex at z
    exact Bool.and_eq_true_iff.mp z
  have xx : ∀ (i : Nat) {f : Fx}, fx[i]? = some f → f.ok K = true := fun i f h => List.all_eq_true.mp hex.1 f (List.mem_of_getElem? h)
  have e := hfa.symm.trans (He.glo_ok X Gm (c.fact 99 (f := .glo "law") rfl))
  cases e
  let G : Ads := ⟨He.ga K "Ground", He.ga K "Nest", He.ga K "Part", He.ga K "NestError", He.ga K "NameMissing", He.ga K "UnlikeGrounds", He.ga K "BadGround", He.ga K "BadCode", He.ga K "BadNest", He.ga K "BadPart", He.ga K "NoLevel"⟩
  have T : Txt K mg G := {
    f_LookupError := He.free_ok X Gm (c.fact 0 (f := .free "LookupError") rfl),
    f_ValueError := He.free_ok X Gm (c.fact 1 (f := .free "ValueError") rfl),
    f_abs := He.free_ok X Gm (c.fact 2 (f := .free "abs") rfl),
    f_all := He.free_ok X Gm (c.fact 3 (f := .free "all") rfl),
    f_any := He.free_ok X Gm (c.fact 4 (f := .free "any") rfl),
    f_bool := He.free_ok X Gm (c.fact 5 (f := .free "bool") rfl),
    f_enumerate := He.free_ok X Gm (c.fact 6 (f := .free "enumerate") rfl),
    f_int := He.free_ok X Gm (c.fact 7 (f := .free "int") rfl),
    f_isinstance := He.free_ok X Gm (c.fact 8 (f := .free "isinstance") rfl),
    f_len := He.free_ok X Gm (c.fact 9 (f := .free "len") rfl),
    f_list := He.free_ok X Gm (c.fact 10 (f := .free "list") rfl),
    f_max := He.free_ok X Gm (c.fact 11 (f := .free "max") rfl),
    f_min := He.free_ok X Gm (c.fact 12 (f := .free "min") rfl),
    f_range := He.free_ok X Gm (c.fact 13 (f := .free "range") rfl),
    f_repr := He.free_ok X Gm (c.fact 14 (f := .free "repr") rfl),
    f_sorted := He.free_ok X Gm (c.fact 15 (f := .free "sorted") rfl),
    f_sum := He.free_ok X Gm (c.fact 16 (f := .free "sum") rfl),
    f_super := He.free_ok X Gm (c.fact 17 (f := .free "super") rfl),
    f_tuple := He.free_ok X Gm (c.fact 18 (f := .free "tuple") rfl),
    f_zip := He.free_ok X Gm (c.fact 19 (f := .free "zip") rfl),
    g_Ground := He.glo_ok X Gm (c.fact 20 (f := .glo "Ground") rfl),
    k_Ground := He.cls_ok (c.fact 21 (f := .cls "Ground") rfl),
    i_Ground := isa_ok (He.cls_ok (c.fact 21 (f := .cls "Ground") rfl)) (xx 0 (f := .isa "Ground") rfl),
    n_Ground_length := He.noat_ok (c.fact 22 (f := .noat "Ground" "length") rfl),
    n_Ground_prime := He.noat_ok (c.fact 23 (f := .noat "Ground" "prime") rfl),
    g_Nest := He.glo_ok X Gm (c.fact 24 (f := .glo "Nest") rfl),
    k_Nest := He.cls_ok (c.fact 25 (f := .cls "Nest") rfl),
    i_Nest := isa_ok (He.cls_ok (c.fact 25 (f := .cls "Nest") rfl)) (xx 1 (f := .isa "Nest") rfl),
    n_Nest_own_codes := He.noat_ok (c.fact 26 (f := .noat "Nest" "own_codes") rfl),
    n_Nest_own_ground := He.noat_ok (c.fact 27 (f := .noat "Nest" "own_ground") rfl),
    g_Part := He.glo_ok X Gm (c.fact 28 (f := .glo "Part") rfl),
    k_Part := He.cls_ok (c.fact 29 (f := .cls "Part") rfl),
    i_Part := isa_ok (He.cls_ok (c.fact 29 (f := .cls "Part") rfl)) (xx 2 (f := .isa "Part") rfl),
    n_Part_own_codes := He.noat_ok (c.fact 30 (f := .noat "Part" "own_codes") rfl),
    n_Part_own_ground := He.noat_ok (c.fact 31 (f := .noat "Part" "own_ground") rfl),
    g_NestError := He.glo_ok X Gm (c.fact 32 (f := .glo "NestError") rfl),
    g_NameMissing := He.glo_ok X Gm (c.fact 33 (f := .glo "NameMissing") rfl),
    g_UnlikeGrounds := He.glo_ok X Gm (c.fact 34 (f := .glo "UnlikeGrounds") rfl),
    g_BadGround := He.glo_ok X Gm (c.fact 35 (f := .glo "BadGround") rfl),
    g_BadCode := He.glo_ok X Gm (c.fact 36 (f := .glo "BadCode") rfl),
    g_BadNest := He.glo_ok X Gm (c.fact 37 (f := .glo "BadNest") rfl),
    g_BadPart := He.glo_ok X Gm (c.fact 38 (f := .glo "BadPart") rfl),
    g_NoLevel := He.glo_ok X Gm (c.fact 39 (f := .glo "NoLevel") rfl) }
  obtain ⟨fdL, FL0⟩ := c.def_ 60 (d := dd60) rfl
  have FL : Df K "law" "law" (top 73) (He.fAd K ("law", none)) fdL := FL0
  have bL := FunD.bindsA (ps := ["_law_script"]) FL (fun _ _ _ _ _ _ us hl => match us, hl with | [_], _ => rfl)
  intro base H KB NB TB E0 hP hS
  have S : SupX.SupTxt PySem.Challenge.rw_codenests_k75_cross_tables.prog K mg "UnlikeGrounds" G.UnlikeGrounds (initOf K (He.ga K "UnlikeGrounds")) := supB_ok (P := PySem.Challenge.rw_codenests_k75_cross_tables.prog) hex.2 T.g_UnlikeGrounds T.f_super htx (by rfl) (by rfl) (by rfl) (by decide +kernel) (by rfl) (by decide +kernel)
  obtain ⟨fd__law_source, F0__law_source⟩ := c.def_ 0 (d := dd0) rfl
  have F__law_source : Df K "_law_source" "_law_source" (top 49) (He.fAd K ("_law_source", none)) fd__law_source := F0__law_source
  have c__law_source : Cl PySem.Challenge.rw_codenests_k75_cross_tables.prog w K mg base 1 "_law_source" (sp__law_source K G) := cl_mk F__law_source (He.glo_ok X Gm (c.fact 40 (f := .glo "_law_source") rfl)) (ok__law_source (P := PySem.Challenge.rw_codenests_k75_cross_tables.prog) (w := w) (base := base) F__law_source T ) (fun _ _ _ _ _ _ us hl => match us, hl with | [_], _ => rfl)
  obtain ⟨fd__law_pick, F0__law_pick⟩ := c.def_ 1 (d := dd1) rfl
  have F__law_pick : Df K "_law_pick" "_law_pick" (top 50) (He.fAd K ("_law_pick", none)) fd__law_pick := F0__law_pick
  have c__law_pick : Cl PySem.Challenge.rw_codenests_k75_cross_tables.prog w K mg base 1 "_law_pick" (sp__law_pick K G) := cl_mk F__law_pick (He.glo_ok X Gm (c.fact 41 (f := .glo "_law_pick") rfl)) (ok__law_pick (P := PySem.Challenge.rw_codenests_k75_cross_tables.prog) (w := w) (base := base) F__law_pick T ) (fun _ _ _ _ _ _ us hl => match us, hl with | [_, _], _ => rfl)
  obtain ⟨fd__law_of, F0__law_of⟩ := c.def_ 2 (d := dd2) rfl
  have F__law_of : Df K "_law_of" "_law_of" (top 51) (He.fAd K ("_law_of", none)) fd__law_of := F0__law_of
  have c__law_of : Cl PySem.Challenge.rw_codenests_k75_cross_tables.prog w K mg base 2 "_law_of" (sp__law_of K G) := cl_mk F__law_of (He.glo_ok X Gm (c.fact 42 (f := .glo "_law_of") rfl)) (ok__law_of (P := PySem.Challenge.rw_codenests_k75_cross_tables.prog) (w := w) (base := base) F__law_of T c__law_pick) (fun _ _ _ _ _ _ us hl => match us, hl with | [_, _], _ => rfl)
  obtain ⟨fd_is_number, F0_is_number⟩ := c.def_ 3 (d := dd3) rfl
  have F_is_number : Df K "is_number" "is_number" (top 10) (He.fAd K ("is_number", none)) fd_is_number := F0_is_number
  have c_is_number : Cl PySem.Challenge.rw_codenests_k75_cross_tables.prog w K mg base 1 "is_number" (sp_is_number K G) := cl_mk F_is_number (He.glo_ok X Gm (c.fact 43 (f := .glo "is_number") rfl)) (ok_is_number (P := PySem.Challenge.rw_codenests_k75_cross_tables.prog) (w := w) (base := base) F_is_number T ) (fun _ _ _ _ _ _ us hl => match us, hl with | [_], _ => rfl)
  obtain ⟨fd_is_prime, F0_is_prime⟩ := c.def_ 4 (d := dd4) rfl
  have F_is_prime : Df K "is_prime" "is_prime" (top 12) (He.fAd K ("is_prime", none)) fd_is_prime := F0_is_prime
  have c_is_prime : Cl PySem.Challenge.rw_codenests_k75_cross_tables.prog w K mg base 2 "is_prime" (sp_is_prime K G) := cl_mk F_is_prime (He.glo_ok X Gm (c.fact 44 (f := .glo "is_prime") rfl)) (ok_is_prime (P := PySem.Challenge.rw_codenests_k75_cross_tables.prog) (w := w) (base := base) F_is_prime T c_is_number) (fun _ _ _ _ _ _ us hl => match us, hl with | [_], _ => rfl)
  obtain ⟨fd_Ground__init_, F0_Ground__init_⟩ := c.def_ 5 (d := dd5) rfl
  have F_Ground__init_ : Df K "__init__" "Ground.__init__" (inClass (top 13) 0) (He.fAd K ("Ground", some "__init__")) fd_Ground__init_ := F0_Ground__init_
  have c_Ground__init_ : Ma PySem.Challenge.rw_codenests_k75_cross_tables.prog w K mg base 3 "Ground" G.Ground (sp_Ground__init_ K G) := ma_mk F_Ground__init_ (He.mkr_ok (c.fact 45 (f := .mkr "Ground") rfl)) (He.glo_ok X Gm (c.fact 20 (f := .glo "Ground") rfl)) (ok_Ground__init_ (P := PySem.Challenge.rw_codenests_k75_cross_tables.prog) (w := w) (base := base) F_Ground__init_ T c_is_prime c_is_number) (fun _ _ _ _ _ _ us hl => match us, hl with | [_, _, _], _ => rfl)
  obtain ⟨fd__law_ground, F0__law_ground⟩ := c.def_ 6 (d := dd6) rfl
  have F__law_ground : Df K "_law_ground" "_law_ground" (top 53) (He.fAd K ("_law_ground", none)) fd__law_ground := F0__law_ground
  have c__law_ground : Cl PySem.Challenge.rw_codenests_k75_cross_tables.prog w K mg base 5 "_law_ground" (sp__law_ground K G) := cl_mk F__law_ground (He.glo_ok X Gm (c.fact 46 (f := .glo "_law_ground") rfl)) (ok__law_ground (P := PySem.Challenge.rw_codenests_k75_cross_tables.prog) (w := w) (base := base) F__law_ground T c__law_pick c__law_of c_Ground__init_) (fun _ _ _ _ _ _ us hl => match us, hl with | [_, _, _], _ => rfl)
  obtain ⟨fd__law_any_ground, F0__law_any_ground⟩ := c.def_ 7 (d := dd7) rfl
  have F__law_any_ground : Df K "_law_any_ground" "_law_any_ground" (top 65) (He.fAd K ("_law_any_ground", none)) fd__law_any_ground := F0__law_any_ground
  have c__law_any_ground : Cl PySem.Challenge.rw_codenests_k75_cross_tables.prog w K mg base 6 "_law_any_ground" (sp__law_any_ground K G) := cl_mk F__law_any_ground (He.glo_ok X Gm (c.fact 47 (f := .glo "_law_any_ground") rfl)) (ok__law_any_ground (P := PySem.Challenge.rw_codenests_k75_cross_tables.prog) (w := w) (base := base) F__law_any_ground T c__law_pick c__law_ground c_Ground__init_) (fun _ _ _ _ _ _ us hl => match us, hl with | [_, _], _ => rfl)
  obtain ⟨fd__law_plus, F0__law_plus⟩ := c.def_ 8 (d := dd8) rfl
  have F__law_plus : Df K "_law_plus" "_law_plus" (top 54) (He.fAd K ("_law_plus", none)) fd__law_plus := F0__law_plus
  have c__law_plus : Cl PySem.Challenge.rw_codenests_k75_cross_tables.prog w K mg base 1 "_law_plus" (sp__law_plus K G) := cl_mk F__law_plus (He.glo_ok X Gm (c.fact 48 (f := .glo "_law_plus") rfl)) (ok__law_plus (P := PySem.Challenge.rw_codenests_k75_cross_tables.prog) (w := w) (base := base) F__law_plus T ) (fun _ _ _ _ _ _ us hl => match us, hl with | [_, _, _, _], _ => rfl)
  obtain ⟨fd__law_pivot, F0__law_pivot⟩ := c.def_ 9 (d := dd9) rfl
  have F__law_pivot : Df K "_law_pivot" "_law_pivot" (top 57) (He.fAd K ("_law_pivot", none)) fd__law_pivot := F0__law_pivot
  have c__law_pivot : Cl PySem.Challenge.rw_codenests_k75_cross_tables.prog w K mg base 1 "_law_pivot" (sp__law_pivot K G) := cl_mk F__law_pivot (He.glo_ok X Gm (c.fact 49 (f := .glo "_law_pivot") rfl)) (ok__law_pivot (P := PySem.Challenge.rw_codenests_k75_cross_tables.prog) (w := w) (base := base) F__law_pivot T ) (fun _ _ _ _ _ _ us hl => match us, hl with | [_], _ => rfl)
  obtain ⟨fd__law_inverse, F0__law_inverse⟩ := c.def_ 10 (d := dd10) rfl
  have F__law_inverse : Df K "_law_inverse" "_law_inverse" (top 56) (He.fAd K ("_law_inverse", none)) fd__law_inverse := F0__law_inverse
  have c__law_inverse : Cl PySem.Challenge.rw_codenests_k75_cross_tables.prog w K mg base 1 "_law_inverse" (sp__law_inverse K G) := cl_mk F__law_inverse (He.glo_ok X Gm (c.fact 50 (f := .glo "_law_inverse") rfl)) (ok__law_inverse (P := PySem.Challenge.rw_codenests_k75_cross_tables.prog) (w := w) (base := base) F__law_inverse T ) (fun _ _ _ _ _ _ us hl => match us, hl with | [_, _], _ => rfl)
  obtain ⟨fd__law_reduced, F0__law_reduced⟩ := c.def_ 11 (d := dd11) rfl
  have F__law_reduced : Df K "_law_reduced" "_law_reduced" (top 58) (He.fAd K ("_law_reduced", none)) fd__law_reduced := F0__law_reduced
  have c__law_reduced : Cl PySem.Challenge.rw_codenests_k75_cross_tables.prog w K mg base 2 "_law_reduced" (sp__law_reduced K G) := cl_mk F__law_reduced (He.glo_ok X Gm (c.fact 51 (f := .glo "_law_reduced") rfl)) (ok__law_reduced (P := PySem.Challenge.rw_codenests_k75_cross_tables.prog) (w := w) (base := base) F__law_reduced T c__law_plus c__law_pivot c__law_inverse) (fun _ _ _ _ _ _ us hl => match us, hl with | [_, _], _ => rfl)
  obtain ⟨fd__law_codes, F0__law_codes⟩ := c.def_ 12 (d := dd12) rfl
  have F__law_codes : Df K "_law_codes" "_law_codes" (top 60) (He.fAd K ("_law_codes", none)) fd__law_codes := F0__law_codes
  have c__law_codes : Cl PySem.Challenge.rw_codenests_k75_cross_tables.prog w K mg base 3 "_law_codes" (sp__law_codes K G) := cl_mk F__law_codes (He.glo_ok X Gm (c.fact 52 (f := .glo "_law_codes") rfl)) (ok__law_codes (P := PySem.Challenge.rw_codenests_k75_cross_tables.prog) (w := w) (base := base) F__law_codes T c__law_reduced) (fun _ _ _ _ _ _ us hl => match us, hl with | [_, _], _ => rfl)
  obtain ⟨fd__law_units, F0__law_units⟩ := c.def_ 13 (d := dd13) rfl
  have F__law_units : Df K "_law_units" "_law_units" (top 55) (He.fAd K ("_law_units", none)) fd__law_units := F0__law_units
  have c__law_units : Cl PySem.Challenge.rw_codenests_k75_cross_tables.prog w K mg base 1 "_law_units" (sp__law_units K G) := cl_mk F__law_units (He.glo_ok X Gm (c.fact 53 (f := .glo "_law_units") rfl)) (ok__law_units (P := PySem.Challenge.rw_codenests_k75_cross_tables.prog) (w := w) (base := base) F__law_units T ) (fun _ _ _ _ _ _ us hl => match us, hl with | [_], _ => rfl)
  obtain ⟨fd__law_mixed, F0__law_mixed⟩ := c.def_ 14 (d := dd14) rfl
  have F__law_mixed : Df K "_law_mixed" "_law_mixed" (top 52) (He.fAd K ("_law_mixed", none)) fd__law_mixed := F0__law_mixed
  have c__law_mixed : Cl PySem.Challenge.rw_codenests_k75_cross_tables.prog w K mg base 2 "_law_mixed" (sp__law_mixed K G) := cl_mk F__law_mixed (He.glo_ok X Gm (c.fact 54 (f := .glo "_law_mixed") rfl)) (ok__law_mixed (P := PySem.Challenge.rw_codenests_k75_cross_tables.prog) (w := w) (base := base) F__law_mixed T c__law_pick) (fun _ _ _ _ _ _ us hl => match us, hl with | [_, _], _ => rfl)
  obtain ⟨fd__law_base, F0__law_base⟩ := c.def_ 15 (d := dd15) rfl
  have F__law_base : Df K "_law_base" "_law_base" (top 59) (He.fAd K ("_law_base", none)) fd__law_base := F0__law_base
  have c__law_base : Cl PySem.Challenge.rw_codenests_k75_cross_tables.prog w K mg base 3 "_law_base" (sp__law_base K G) := cl_mk F__law_base (He.glo_ok X Gm (c.fact 55 (f := .glo "_law_base") rfl)) (ok__law_base (P := PySem.Challenge.rw_codenests_k75_cross_tables.prog) (w := w) (base := base) F__law_base T c__law_units c__law_plus c__law_pick c__law_mixed) (fun _ _ _ _ _ _ us hl => match us, hl with | [_, _], _ => rfl)
  obtain ⟨fd__law_part, F0__law_part⟩ := c.def_ 16 (d := dd16) rfl
  have F__law_part : Df K "_law_part" "_law_part" (top 67) (He.fAd K ("_law_part", none)) fd__law_part := F0__law_part
  have c__law_part : Cl PySem.Challenge.rw_codenests_k75_cross_tables.prog w K mg base 4 "_law_part" (sp__law_part K G) := cl_mk F__law_part (He.glo_ok X Gm (c.fact 56 (f := .glo "_law_part") rfl)) (ok__law_part (P := PySem.Challenge.rw_codenests_k75_cross_tables.prog) (w := w) (base := base) F__law_part T c__law_codes c__law_base c__law_pick) (fun _ _ _ _ _ _ us hl => match us, hl with | [_, _], _ => rfl)
  obtain ⟨fd__law_any_order, F0__law_any_order⟩ := c.def_ 17 (d := dd17) rfl
  have F__law_any_order : Df K "_law_any_order" "_law_any_order" (top 62) (He.fAd K ("_law_any_order", none)) fd__law_any_order := F0__law_any_order
  have c__law_any_order : Cl PySem.Challenge.rw_codenests_k75_cross_tables.prog w K mg base 3 "_law_any_order" (sp__law_any_order K G) := cl_mk F__law_any_order (He.glo_ok X Gm (c.fact 57 (f := .glo "_law_any_order") rfl)) (ok__law_any_order (P := PySem.Challenge.rw_codenests_k75_cross_tables.prog) (w := w) (base := base) F__law_any_order T c__law_pick c__law_mixed) (fun _ _ _ _ _ _ us hl => match us, hl with | [_, _], _ => rfl)
  obtain ⟨fd__law_second, F0__law_second⟩ := c.def_ 18 (d := dd18) rfl
  have F__law_second : Df K "_law_second" "_law_second" (top 63) (He.fAd K ("_law_second", none)) fd__law_second := F0__law_second
  have c__law_second : Cl PySem.Challenge.rw_codenests_k75_cross_tables.prog w K mg base 1 "_law_second" (sp__law_second K G) := cl_mk F__law_second (He.glo_ok X Gm (c.fact 58 (f := .glo "_law_second") rfl)) (ok__law_second (P := PySem.Challenge.rw_codenests_k75_cross_tables.prog) (w := w) (base := base) F__law_second T ) (fun _ _ _ _ _ _ us hl => match us, hl with | [_, _], _ => rfl)
  obtain ⟨fd__law_near_pair, F0__law_near_pair⟩ := c.def_ 19 (d := dd19) rfl
  have F__law_near_pair : Df K "_law_near_pair" "_law_near_pair" (top 72) (He.fAd K ("_law_near_pair", none)) fd__law_near_pair := F0__law_near_pair
  have c__law_near_pair : Cl PySem.Challenge.rw_codenests_k75_cross_tables.prog w K mg base 5 "_law_near_pair" (sp__law_near_pair K G) := cl_mk F__law_near_pair (He.glo_ok X Gm (c.fact 59 (f := .glo "_law_near_pair") rfl)) (ok__law_near_pair (P := PySem.Challenge.rw_codenests_k75_cross_tables.prog) (w := w) (base := base) F__law_near_pair T c__law_pick c__law_part c__law_any_order c__law_base c__law_second c__law_codes) (fun _ _ _ _ _ _ us hl => match us, hl with | [_, _], _ => rfl)
  obtain ⟨fd_Ground_n, F0_Ground_n⟩ := c.def_ 20 (d := dd20) rfl
  have F_Ground_n : Df K "n" "Ground.n" (inClass (top 13) 3) (He.fAd K ("Ground", some "n")) fd_Ground_n := F0_Ground_n
  have c_Ground_n : Me PySem.Challenge.rw_codenests_k75_cross_tables.prog w K mg base 1 G.Ground "n" (sp_Ground_n K G) := me_mk F_Ground_n T.k_Ground (He.meth_ok (c.fact 60 (f := .meth "Ground" "n") rfl)) (ok_Ground_n (P := PySem.Challenge.rw_codenests_k75_cross_tables.prog) (w := w) (base := base) F_Ground_n T ) (fun _ _ _ _ _ _ us hl => match us, hl with | [_], _ => rfl)
  obtain ⟨fd_Ground_p, F0_Ground_p⟩ := c.def_ 21 (d := dd21) rfl
  have F_Ground_p : Df K "p" "Ground.p" (inClass (top 13) 2) (He.fAd K ("Ground", some "p")) fd_Ground_p := F0_Ground_p
  have c_Ground_p : Me PySem.Challenge.rw_codenests_k75_cross_tables.prog w K mg base 1 G.Ground "p" (sp_Ground_p K G) := me_mk F_Ground_p T.k_Ground (He.meth_ok (c.fact 61 (f := .meth "Ground" "p") rfl)) (ok_Ground_p (P := PySem.Challenge.rw_codenests_k75_cross_tables.prog) (w := w) (base := base) F_Ground_p T ) (fun _ _ _ _ _ _ us hl => match us, hl with | [_], _ => rfl)
  obtain ⟨fd_wrong_entry, F0_wrong_entry⟩ := c.def_ 22 (d := dd22) rfl
  have F_wrong_entry : Df K "wrong_entry" "wrong_entry" (top 22) (He.fAd K ("wrong_entry", none)) fd_wrong_entry := F0_wrong_entry
  have c_wrong_entry : Cl PySem.Challenge.rw_codenests_k75_cross_tables.prog w K mg base 2 "wrong_entry" (sp_wrong_entry K G) := cl_mk F_wrong_entry (He.glo_ok X Gm (c.fact 62 (f := .glo "wrong_entry") rfl)) (ok_wrong_entry (P := PySem.Challenge.rw_codenests_k75_cross_tables.prog) (w := w) (base := base) F_wrong_entry T c_Ground_p c_is_number) (fun _ _ _ _ _ _ us hl => match us, hl with | [_, _], _ => rfl)
  obtain ⟨fd_pivot, F0_pivot⟩ := c.def_ 23 (d := dd23) rfl
  have F_pivot : Df K "pivot" "pivot" (top 17) (He.fAd K ("pivot", none)) fd_pivot := F0_pivot
  have c_pivot : Cl PySem.Challenge.rw_codenests_k75_cross_tables.prog w K mg base 1 "pivot" (sp_pivot K G) := cl_mk F_pivot (He.glo_ok X Gm (c.fact 63 (f := .glo "pivot") rfl)) (ok_pivot (P := PySem.Challenge.rw_codenests_k75_cross_tables.prog) (w := w) (base := base) F_pivot T ) (fun _ _ _ _ _ _ us hl => match us, hl with | [_], _ => rfl)
  obtain ⟨fd_check_code, F0_check_code⟩ := c.def_ 24 (d := dd24) rfl
  have F_check_code : Df K "check_code" "check_code" (top 23) (He.fAd K ("check_code", none)) fd_check_code := F0_check_code
  have c_check_code : Cl PySem.Challenge.rw_codenests_k75_cross_tables.prog w K mg base 3 "check_code" (sp_check_code K G) := cl_mk F_check_code (He.glo_ok X Gm (c.fact 64 (f := .glo "check_code") rfl)) (ok_check_code (P := PySem.Challenge.rw_codenests_k75_cross_tables.prog) (w := w) (base := base) F_check_code T c_Ground_n c_wrong_entry c_pivot) (fun _ _ _ _ _ _ us hl => match us, hl with | [_, _], _ => rfl)
  obtain ⟨fd_code_fault, F0_code_fault⟩ := c.def_ 25 (d := dd25) rfl
  have F_code_fault : Df K "code_fault" "code_fault" (top 32) (He.fAd K ("code_fault", none)) fd_code_fault := F0_code_fault
  have c_code_fault : Cl PySem.Challenge.rw_codenests_k75_cross_tables.prog w K mg base 4 "code_fault" (sp_code_fault K G) := cl_mk F_code_fault (He.glo_ok X Gm (c.fact 65 (f := .glo "code_fault") rfl)) (ok_code_fault (P := PySem.Challenge.rw_codenests_k75_cross_tables.prog) (w := w) (base := base) F_code_fault T c_check_code) (fun _ _ _ _ _ _ us hl => match us, hl with | [_, _], _ => rfl)
  obtain ⟨fd_subtracted, F0_subtracted⟩ := c.def_ 26 (d := dd26) rfl
  have F_subtracted : Df K "subtracted" "subtracted" (top 16) (He.fAd K ("subtracted", none)) fd_subtracted := F0_subtracted
  have c_subtracted : Cl PySem.Challenge.rw_codenests_k75_cross_tables.prog w K mg base 2 "subtracted" (sp_subtracted K G) := cl_mk F_subtracted (He.glo_ok X Gm (c.fact 66 (f := .glo "subtracted") rfl)) (ok_subtracted (P := PySem.Challenge.rw_codenests_k75_cross_tables.prog) (w := w) (base := base) F_subtracted T c_Ground_p) (fun _ _ _ _ _ _ us hl => match us, hl with | [_, _, _], _ => rfl)
  obtain ⟨fd_scaled, F0_scaled⟩ := c.def_ 27 (d := dd27) rfl
  have F_scaled : Df K "scaled" "scaled" (top 15) (He.fAd K ("scaled", none)) fd_scaled := F0_scaled
  have c_scaled : Cl PySem.Challenge.rw_codenests_k75_cross_tables.prog w K mg base 2 "scaled" (sp_scaled K G) := cl_mk F_scaled (He.glo_ok X Gm (c.fact 67 (f := .glo "scaled") rfl)) (ok_scaled (P := PySem.Challenge.rw_codenests_k75_cross_tables.prog) (w := w) (base := base) F_scaled T c_Ground_p) (fun _ _ _ _ _ _ us hl => match us, hl with | [_, _, _], _ => rfl)
  obtain ⟨fd_without, F0_without⟩ := c.def_ 28 (d := dd28) rfl
  have F_without : Df K "without" "without" (top 19) (He.fAd K ("without", none)) fd_without := F0_without
  have c_without : Cl PySem.Challenge.rw_codenests_k75_cross_tables.prog w K mg base 3 "without" (sp_without K G) := cl_mk F_without (He.glo_ok X Gm (c.fact 68 (f := .glo "without") rfl)) (ok_without (P := PySem.Challenge.rw_codenests_k75_cross_tables.prog) (w := w) (base := base) F_without T c_subtracted c_scaled c_pivot) (fun _ _ _ _ _ _ us hl => match us, hl with | [_, _, _], _ => rfl)
  obtain ⟨fd_rest, F0_rest⟩ := c.def_ 29 (d := dd29) rfl
  have F_rest : Df K "rest" "rest" (top 25) (He.fAd K ("rest", none)) fd_rest := F0_rest
  have c_rest : Cl PySem.Challenge.rw_codenests_k75_cross_tables.prog w K mg base 4 "rest" (sp_rest K G) := cl_mk F_rest (He.glo_ok X Gm (c.fact 69 (f := .glo "rest") rfl)) (ok_rest (P := PySem.Challenge.rw_codenests_k75_cross_tables.prog) (w := w) (base := base) F_rest T c_without) (fun _ _ _ _ _ _ us hl => match us, hl with | [_, _, _], _ => rfl)
  obtain ⟨fd_Ground_zero, F0_Ground_zero⟩ := c.def_ 30 (d := dd30) rfl
  have F_Ground_zero : Df K "zero" "Ground.zero" (inClass (top 13) 4) (He.fAd K ("Ground", some "zero")) fd_Ground_zero := F0_Ground_zero
  have c_Ground_zero : Me PySem.Challenge.rw_codenests_k75_cross_tables.prog w K mg base 1 G.Ground "zero" (sp_Ground_zero K G) := me_mk F_Ground_zero T.k_Ground (He.meth_ok (c.fact 70 (f := .meth "Ground" "zero") rfl)) (ok_Ground_zero (P := PySem.Challenge.rw_codenests_k75_cross_tables.prog) (w := w) (base := base) F_Ground_zero T ) (fun _ _ _ _ _ _ us hl => match us, hl with | [_], _ => rfl)
  obtain ⟨fd_is_in, F0_is_in⟩ := c.def_ 31 (d := dd31) rfl
  have F_is_in : Df K "is_in" "is_in" (top 26) (He.fAd K ("is_in", none)) fd_is_in := F0_is_in
  have c_is_in : Cl PySem.Challenge.rw_codenests_k75_cross_tables.prog w K mg base 5 "is_in" (sp_is_in K G) := cl_mk F_is_in (He.glo_ok X Gm (c.fact 71 (f := .glo "is_in") rfl)) (ok_is_in (P := PySem.Challenge.rw_codenests_k75_cross_tables.prog) (w := w) (base := base) F_is_in T c_rest c_Ground_zero) (fun _ _ _ _ _ _ us hl => match us, hl with | [_, _, _], _ => rfl)
  obtain ⟨fd_is_within, F0_is_within⟩ := c.def_ 32 (d := dd32) rfl
  have F_is_within : Df K "is_within" "is_within" (top 27) (He.fAd K ("is_within", none)) fd_is_within := F0_is_within
  have c_is_within : Cl PySem.Challenge.rw_codenests_k75_cross_tables.prog w K mg base 6 "is_within" (sp_is_within K G) := cl_mk F_is_within (He.glo_ok X Gm (c.fact 72 (f := .glo "is_within") rfl)) (ok_is_within (P := PySem.Challenge.rw_codenests_k75_cross_tables.prog) (w := w) (base := base) F_is_within T c_is_in) (fun _ _ _ _ _ _ us hl => match us, hl with | [_, _, _], _ => rfl)
  obtain ⟨fd_first_wrong_parts, F0_first_wrong_parts⟩ := c.def_ 33 (d := dd33) rfl
  have F_first_wrong_parts : Df K "first_wrong" "first_wrong" (top 40) (He.fAd K ("first_wrong_parts", none)) fd_first_wrong_parts := F0_first_wrong_parts
  have c_first_wrong_parts : Cl PySem.Challenge.rw_codenests_k75_cross_tables.prog w K mg base 7 "first_wrong_parts" (sp_first_wrong_parts K G) := ⟨_, fd_first_wrong_parts, ["ground", "codes"], (ok_first_wrong_parts (P := PySem.Challenge.rw_codenests_k75_cross_tables.prog) (w := w) (base := base) F_first_wrong_parts T c_code_fault c_is_within c_Ground_n), He.glo_ok X Gm (c.fact 73 (f := .glo "first_wrong_parts") rfl), F_first_wrong_parts.kp, F_first_wrong_parts.bindsN (fun _ _ _ _ _ _ us hl => match us, hl with | [_, _], _ => rfl)⟩
  obtain ⟨fd_Part__init_, F0_Part__init_⟩ := c.def_ 34 (d := dd34) rfl
  have F_Part__init_ : Df K "__init__" "Part.__init__" (inClass (top 42) 0) (He.fAd K ("Part", some "__init__")) fd_Part__init_ := F0_Part__init_
  have c_Part__init_ : Ma PySem.Challenge.rw_codenests_k75_cross_tables.prog w K mg base 8 "Part" G.Part (sp_Part__init_ K G) := ma_mk F_Part__init_ (He.mkr_ok (c.fact 74 (f := .mkr "Part") rfl)) (He.glo_ok X Gm (c.fact 28 (f := .glo "Part") rfl)) (ok_Part__init_ (P := PySem.Challenge.rw_codenests_k75_cross_tables.prog) (w := w) (base := base) F_Part__init_ T c_first_wrong_parts) (fun _ _ _ _ _ _ us hl => match us, hl with | [_, _, _], _ => rfl)
  obtain ⟨fd_Ground__eq_, F0_Ground__eq_⟩ := c.def_ 35 (d := dd35) rfl
  have F_Ground__eq_ : Df K "__eq__" "Ground.__eq__" (inClass (top 13) 1) (He.fAd K ("Ground", some "__eq__")) fd_Ground__eq_ := F0_Ground__eq_
  have c_Ground__eq_ : Me PySem.Challenge.rw_codenests_k75_cross_tables.prog w K mg base 1 G.Ground "__eq__" (sp_Ground__eq_ K G) := me_mk F_Ground__eq_ T.k_Ground (He.meth_ok (c.fact 75 (f := .meth "Ground" "__eq__") rfl)) (ok_Ground__eq_ (P := PySem.Challenge.rw_codenests_k75_cross_tables.prog) (w := w) (base := base) F_Ground__eq_ T ) (fun _ _ _ _ _ _ us hl => match us, hl with | [_, _], _ => rfl)
  have c_Ground__eq__eq : Eqs PySem.Challenge.rw_codenests_k75_cross_tables.prog w K mg base 1 G.Ground (sp_Ground__eq_ K G) := ⟨_, fd_Ground__eq_, ["self", "other"], T.k_Ground, He.meth_ok (c.fact 75 (f := .meth "Ground" "__eq__") rfl), (ok_Ground__eq_ (P := PySem.Challenge.rw_codenests_k75_cross_tables.prog) (w := w) (base := base) F_Ground__eq_ T ), F_Ground__eq_.bindsN (fun _ _ _ _ _ _ us hl => match us, hl with | [_, _], _ => rfl), (ne_ok (xx 3 (f := .ne "Ground") rfl)).1, (ne_ok (xx 3 (f := .ne "Ground") rfl)).2⟩
  obtain ⟨fd_Part_ground, F0_Part_ground⟩ := c.def_ 36 (d := dd36) rfl
  have F_Part_ground : Df K "ground" "Part.ground" (inClass (top 42) 2) (He.fAd K ("Part", some "ground")) fd_Part_ground := F0_Part_ground
  have c_Part_ground : Me PySem.Challenge.rw_codenests_k75_cross_tables.prog w K mg base 1 G.Part "ground" (sp_Part_ground K G) := me_mk F_Part_ground T.k_Part (He.meth_ok (c.fact 76 (f := .meth "Part" "ground") rfl)) (ok_Part_ground (P := PySem.Challenge.rw_codenests_k75_cross_tables.prog) (w := w) (base := base) F_Part_ground T ) (fun _ _ _ _ _ _ us hl => match us, hl with | [_], _ => rfl)
  obtain ⟨fd_check_alike, F0_check_alike⟩ := c.def_ 37 (d := dd37) rfl
  have F_check_alike : Df K "check_alike" "check_alike" (top 37) (He.fAd K ("check_alike", none)) fd_check_alike := F0_check_alike
  have c_check_alike_R : ClX PySem.Challenge.rw_codenests_k75_cross_tables.prog w K mg base 3 "check_alike" (spR_check_alike K G) := ⟨_, fd_check_alike, ["things"], (okR_check_alike (P := PySem.Challenge.rw_codenests_k75_cross_tables.prog) (w := w) (base := base) F_check_alike T S c_Ground__eq__eq c_Part_ground), He.glo_ok X Gm (c.fact 77 (f := .glo "check_alike") rfl), F_check_alike.kp, F_check_alike.bindsN (fun _ _ _ _ _ _ us hl => match us, hl with | [_], _ => rfl)⟩
  have c_check_alike : Cl PySem.Challenge.rw_codenests_k75_cross_tables.prog w K mg base 3 "check_alike" (sp_check_alike K G) := cl_mk F_check_alike (He.glo_ok X Gm (c.fact 77 (f := .glo "check_alike") rfl)) (ok_check_alike (P := PySem.Challenge.rw_codenests_k75_cross_tables.prog) (w := w) (base := base) F_check_alike T c_Ground__eq__eq c_Part_ground) (fun _ _ _ _ _ _ us hl => match us, hl with | [_], _ => rfl)
  obtain ⟨fd_Ground_units, F0_Ground_units⟩ := c.def_ 38 (d := dd38) rfl
  have F_Ground_units : Df K "units" "Ground.units" (inClass (top 13) 5) (He.fAd K ("Ground", some "units")) fd_Ground_units := F0_Ground_units
  have c_Ground_units : Me PySem.Challenge.rw_codenests_k75_cross_tables.prog w K mg base 1 G.Ground "units" (sp_Ground_units K G) := me_mk F_Ground_units T.k_Ground (He.meth_ok (c.fact 78 (f := .meth "Ground" "units") rfl)) (ok_Ground_units (P := PySem.Challenge.rw_codenests_k75_cross_tables.prog) (w := w) (base := base) F_Ground_units T ) (fun _ _ _ _ _ _ us hl => match us, hl with | [_], _ => rfl)
  obtain ⟨fd_Part_codes, F0_Part_codes⟩ := c.def_ 39 (d := dd39) rfl
  have F_Part_codes : Df K "codes" "Part.codes" (inClass (top 42) 3) (He.fAd K ("Part", some "codes")) fd_Part_codes := F0_Part_codes
  have c_Part_codes : Me PySem.Challenge.rw_codenests_k75_cross_tables.prog w K mg base 1 G.Part "codes" (sp_Part_codes K G) := me_mk F_Part_codes T.k_Part (He.meth_ok (c.fact 79 (f := .meth "Part" "codes") rfl)) (ok_Part_codes (P := PySem.Challenge.rw_codenests_k75_cross_tables.prog) (w := w) (base := base) F_Part_codes T ) (fun _ _ _ _ _ _ us hl => match us, hl with | [_], _ => rfl)
  obtain ⟨fd_steps_of, F0_steps_of⟩ := c.def_ 40 (d := dd40) rfl
  have F_steps_of : Df K "steps_of" "steps_of" (top 38) (He.fAd K ("steps_of", none)) fd_steps_of := F0_steps_of
  have c_steps_of : Cl PySem.Challenge.rw_codenests_k75_cross_tables.prog w K mg base 2 "steps_of" (sp_steps_of K G) := cl_mk F_steps_of (He.glo_ok X Gm (c.fact 80 (f := .glo "steps_of") rfl)) (ok_steps_of (P := PySem.Challenge.rw_codenests_k75_cross_tables.prog) (w := w) (base := base) F_steps_of T c_Ground_units c_Part_ground c_Part_codes) (fun _ _ _ _ _ _ us hl => match us, hl with | [_], _ => rfl)
  obtain ⟨fd_tops_of, F0_tops_of⟩ := c.def_ 41 (d := dd41) rfl
  have F_tops_of : Df K "tops_of" "tops_of" (top 44) (He.fAd K ("tops_of", none)) fd_tops_of := F0_tops_of
  have c_tops_of : Cl PySem.Challenge.rw_codenests_k75_cross_tables.prog w K mg base 3 "tops_of" (sp_tops_of K G) := cl_mk F_tops_of (He.glo_ok X Gm (c.fact 81 (f := .glo "tops_of") rfl)) (ok_tops_of (P := PySem.Challenge.rw_codenests_k75_cross_tables.prog) (w := w) (base := base) F_tops_of T c_steps_of) (fun _ _ _ _ _ _ us hl => match us, hl with | [_], _ => rfl)
  obtain ⟨fd_Ground_inverse_of, F0_Ground_inverse_of⟩ := c.def_ 42 (d := dd42) rfl
  have F_Ground_inverse_of : Df K "inverse_of" "Ground.inverse_of" (inClass (top 13) 6) (He.fAd K ("Ground", some "inverse_of")) fd_Ground_inverse_of := F0_Ground_inverse_of
  have c_Ground_inverse_of : Me PySem.Challenge.rw_codenests_k75_cross_tables.prog w K mg base 1 G.Ground "inverse_of" (sp_Ground_inverse_of K G) := me_mk F_Ground_inverse_of T.k_Ground (He.meth_ok (c.fact 82 (f := .meth "Ground" "inverse_of") rfl)) (ok_Ground_inverse_of (P := PySem.Challenge.rw_codenests_k75_cross_tables.prog) (w := w) (base := base) F_Ground_inverse_of T ) (fun _ _ _ _ _ _ us hl => match us, hl with | [_, _], _ => rfl)
  obtain ⟨fd_reduced, F0_reduced⟩ := c.def_ 43 (d := dd43) rfl
  have F_reduced : Df K "reduced" "reduced" (top 20) (He.fAd K ("reduced", none)) fd_reduced := F0_reduced
  have c_reduced : Cl PySem.Challenge.rw_codenests_k75_cross_tables.prog w K mg base 4 "reduced" (sp_reduced K G) := cl_mk F_reduced (He.glo_ok X Gm (c.fact 83 (f := .glo "reduced") rfl)) (ok_reduced (P := PySem.Challenge.rw_codenests_k75_cross_tables.prog) (w := w) (base := base) F_reduced T c_without c_pivot c_scaled c_Ground_inverse_of c_subtracted) (fun _ _ _ _ _ _ us hl => match us, hl with | [_, _], _ => rfl)
  obtain ⟨fd_code_of, F0_code_of⟩ := c.def_ 44 (d := dd44) rfl
  have F_code_of : Df K "code_of" "code_of" (top 24) (He.fAd K ("code_of", none)) fd_code_of := F0_code_of
  have c_code_of : Cl PySem.Challenge.rw_codenests_k75_cross_tables.prog w K mg base 5 "code_of" (sp_code_of K G) := cl_mk F_code_of (He.glo_ok X Gm (c.fact 84 (f := .glo "code_of") rfl)) (ok_code_of (P := PySem.Challenge.rw_codenests_k75_cross_tables.prog) (w := w) (base := base) F_code_of T c_reduced) (fun _ _ _ _ _ _ us hl => match us, hl with | [_, _], _ => rfl)
  obtain ⟨fd_common, F0_common⟩ := c.def_ 45 (d := dd45) rfl
  have F_common : Df K "common" "common" (top 29) (He.fAd K ("common", none)) fd_common := F0_common
  have c_common : Cl PySem.Challenge.rw_codenests_k75_cross_tables.prog w K mg base 6 "common" (sp_common K G) := cl_mk F_common (He.glo_ok X Gm (c.fact 85 (f := .glo "common") rfl)) (ok_common (P := PySem.Challenge.rw_codenests_k75_cross_tables.prog) (w := w) (base := base) F_common T c_Ground_zero c_Ground__init_ c_Ground_n c_Ground_p c_reduced c_pivot c_code_of) (fun _ _ _ _ _ _ us hl => match us, hl with | [_, _, _], _ => rfl)
  obtain ⟨fd_part_table, F0_part_table⟩ := c.def_ 46 (d := dd46) rfl
  have F_part_table : Df K "part_table" "part_table" (top 45) (He.fAd K ("part_table", none)) fd_part_table := F0_part_table
  have c_part_table_R : ClX PySem.Challenge.rw_codenests_k75_cross_tables.prog w K mg base 4 "part_table" (spR_part_table K G) := ⟨_, fd_part_table, ["one", "other"], (okR_part_table (P := PySem.Challenge.rw_codenests_k75_cross_tables.prog) (w := w) (base := base) F_part_table T c_check_alike_R), He.glo_ok X Gm (c.fact 86 (f := .glo "part_table") rfl), F_part_table.kp, F_part_table.bindsN (fun _ _ _ _ _ _ us hl => match us, hl with | [_, _], _ => rfl)⟩
  have c_part_table : Cl PySem.Challenge.rw_codenests_k75_cross_tables.prog w K mg base 7 "part_table" (sp_part_table K G) := cl_mk F_part_table (He.glo_ok X Gm (c.fact 86 (f := .glo "part_table") rfl)) (ok_part_table (P := PySem.Challenge.rw_codenests_k75_cross_tables.prog) (w := w) (base := base) F_part_table T c_check_alike c_tops_of c_common c_Part_ground) (fun _ _ _ _ _ _ us hl => match us, hl with | [_, _], _ => rfl)
  obtain ⟨fd__law_whole, F0__law_whole⟩ := c.def_ 47 (d := dd47) rfl
  have F__law_whole : Df K "_law_whole" "_law_whole" (top 61) (He.fAd K ("_law_whole", none)) fd__law_whole := F0__law_whole
  have c__law_whole : Cl PySem.Challenge.rw_codenests_k75_cross_tables.prog w K mg base 2 "_law_whole" (sp__law_whole K G) := cl_mk F__law_whole (He.glo_ok X Gm (c.fact 87 (f := .glo "_law_whole") rfl)) (ok__law_whole (P := PySem.Challenge.rw_codenests_k75_cross_tables.prog) (w := w) (base := base) F__law_whole T c__law_units) (fun _ _ _ _ _ _ us hl => match us, hl with | [_, _], _ => rfl)
  obtain ⟨fd__law_tops, F0__law_tops⟩ := c.def_ 48 (d := dd48) rfl
  have F__law_tops : Df K "_law_tops" "_law_tops" (top 68) (He.fAd K ("_law_tops", none)) fd__law_tops := F0__law_tops
  have c__law_tops : Cl PySem.Challenge.rw_codenests_k75_cross_tables.prog w K mg base 3 "_law_tops" (sp__law_tops K G) := cl_mk F__law_tops (He.glo_ok X Gm (c.fact 88 (f := .glo "_law_tops") rfl)) (ok__law_tops (P := PySem.Challenge.rw_codenests_k75_cross_tables.prog) (w := w) (base := base) F__law_tops T c__law_whole) (fun _ _ _ _ _ _ us hl => match us, hl with | [_, _], _ => rfl)
  obtain ⟨fd__law_joined, F0__law_joined⟩ := c.def_ 49 (d := dd49) rfl
  have F__law_joined : Df K "_law_joined" "_law_joined" (top 66) (He.fAd K ("_law_joined", none)) fd__law_joined := F0__law_joined
  have c__law_joined : Cl PySem.Challenge.rw_codenests_k75_cross_tables.prog w K mg base 3 "_law_joined" (sp__law_joined K G) := cl_mk F__law_joined (He.glo_ok X Gm (c.fact 89 (f := .glo "_law_joined") rfl)) (ok__law_joined (P := PySem.Challenge.rw_codenests_k75_cross_tables.prog) (w := w) (base := base) F__law_joined T c__law_reduced) (fun _ _ _ _ _ _ us hl => match us, hl with | [_, _, _], _ => rfl)
  obtain ⟨fd__law_cross, F0__law_cross⟩ := c.def_ 50 (d := dd50) rfl
  have F__law_cross : Df K "_law_cross" "_law_cross" (top 71) (He.fAd K ("_law_cross", none)) fd__law_cross := F0__law_cross
  have c__law_cross : Cl PySem.Challenge.rw_codenests_k75_cross_tables.prog w K mg base 4 "_law_cross" (sp__law_cross K G) := cl_mk F__law_cross (He.glo_ok X Gm (c.fact 90 (f := .glo "_law_cross") rfl)) (ok__law_cross (P := PySem.Challenge.rw_codenests_k75_cross_tables.prog) (w := w) (base := base) F__law_cross T c__law_tops c__law_joined) (fun _ _ _ _ _ _ us hl => match us, hl with | [_, _, _], _ => rfl)
  obtain ⟨fd_Part_ranks, F0_Part_ranks⟩ := c.def_ 51 (d := dd51) rfl
  have F_Part_ranks : Df K "ranks" "Part.ranks" (inClass (top 42) 4) (He.fAd K ("Part", some "ranks")) fd_Part_ranks := F0_Part_ranks
  have c_Part_ranks : Me PySem.Challenge.rw_codenests_k75_cross_tables.prog w K mg base 1 G.Part "ranks" (sp_Part_ranks K G) := me_mk F_Part_ranks T.k_Part (He.meth_ok (c.fact 91 (f := .meth "Part" "ranks") rfl)) (ok_Part_ranks (P := PySem.Challenge.rw_codenests_k75_cross_tables.prog) (w := w) (base := base) F_Part_ranks T ) (fun _ _ _ _ _ _ us hl => match us, hl with | [_], _ => rfl)
  obtain ⟨fd_Part_blocks, F0_Part_blocks⟩ := c.def_ 52 (d := dd52) rfl
  have F_Part_blocks : Df K "blocks" "Part.blocks" (inClass (top 42) 5) (He.fAd K ("Part", some "blocks")) fd_Part_blocks := F0_Part_blocks
  have c_Part_blocks : Me PySem.Challenge.rw_codenests_k75_cross_tables.prog w K mg base 2 G.Part "blocks" (sp_Part_blocks K G) := me_mk F_Part_blocks T.k_Part (He.meth_ok (c.fact 92 (f := .meth "Part" "blocks") rfl)) (ok_Part_blocks (P := PySem.Challenge.rw_codenests_k75_cross_tables.prog) (w := w) (base := base) F_Part_blocks T c_Ground_n c_Part_ranks) (fun _ _ _ _ _ _ us hl => match us, hl with | [_], _ => rfl)
  obtain ⟨fd_first_wrong, F0_first_wrong⟩ := c.def_ 53 (d := dd53) rfl
  have F_first_wrong : Df K "first_wrong" "first_wrong" (top 33) (He.fAd K ("first_wrong_nests", none)) fd_first_wrong := F0_first_wrong
  have c_first_wrong : Cl PySem.Challenge.rw_codenests_k75_cross_tables.prog w K mg base 7 "first_wrong_nests" (sp_first_wrong K G) := ⟨_, fd_first_wrong, ["ground", "codes"], (ok_first_wrong (P := PySem.Challenge.rw_codenests_k75_cross_tables.prog) (w := w) (base := base) F_first_wrong T c_Ground_n c_code_fault c_is_within), He.glo_ok X Gm (c.fact 93 (f := .glo "first_wrong_nests") rfl), F_first_wrong.kp, F_first_wrong.bindsN (fun _ _ _ _ _ _ us hl => match us, hl with | [_, _], _ => rfl)⟩
  obtain ⟨fd_Nest__init_, F0_Nest__init_⟩ := c.def_ 54 (d := dd54) rfl
  have F_Nest__init_ : Df K "__init__" "Nest.__init__" (inClass (top 35) 0) (He.fAd K ("Nest", some "__init__")) fd_Nest__init_ := F0_Nest__init_
  have c_Nest__init_ : Ma PySem.Challenge.rw_codenests_k75_cross_tables.prog w K mg base 8 "Nest" G.Nest (sp_Nest__init_ K G) := ma_mk F_Nest__init_ (He.mkr_ok (c.fact 94 (f := .mkr "Nest") rfl)) (He.glo_ok X Gm (c.fact 24 (f := .glo "Nest") rfl)) (ok_Nest__init_ (P := PySem.Challenge.rw_codenests_k75_cross_tables.prog) (w := w) (base := base) F_Nest__init_ T c_first_wrong) (fun _ _ _ _ _ _ us hl => match us, hl with | [_, _, _], _ => rfl)
  obtain ⟨fd__law_pair, F0__law_pair⟩ := c.def_ 55 (d := dd55) rfl
  have F__law_pair : Df K "_law_pair" "_law_pair" (top 64) (He.fAd K ("_law_pair", none)) fd__law_pair := F0__law_pair
  have c__law_pair : Cl PySem.Challenge.rw_codenests_k75_cross_tables.prog w K mg base 10 "_law_pair" (sp__law_pair K G) := cl_mk F__law_pair (He.glo_ok X Gm (c.fact 95 (f := .glo "_law_pair") rfl)) (ok__law_pair (P := PySem.Challenge.rw_codenests_k75_cross_tables.prog) (w := w) (base := base) F__law_pair T c__law_any_order c__law_base c__law_codes c__law_second c_Nest__init_) (fun _ _ _ _ _ _ us hl => match us, hl with | [_, _], _ => rfl)
  obtain ⟨fd_Nest_codes, F0_Nest_codes⟩ := c.def_ 56 (d := dd56) rfl
  have F_Nest_codes : Df K "codes" "Nest.codes" (inClass (top 35) 3) (He.fAd K ("Nest", some "codes")) fd_Nest_codes := F0_Nest_codes
  have c_Nest_codes : Me PySem.Challenge.rw_codenests_k75_cross_tables.prog w K mg base 1 G.Nest "codes" (sp_Nest_codes K G) := me_mk F_Nest_codes T.k_Nest (He.meth_ok (c.fact 96 (f := .meth "Nest" "codes") rfl)) (ok_Nest_codes (P := PySem.Challenge.rw_codenests_k75_cross_tables.prog) (w := w) (base := base) F_Nest_codes T ) (fun _ _ _ _ _ _ us hl => match us, hl with | [_], _ => rfl)
  obtain ⟨fd__law_far, F0__law_far⟩ := c.def_ 57 (d := dd57) rfl
  have F__law_far : Df K "_law_far" "_law_far" (top 69) (He.fAd K ("_law_far", none)) fd__law_far := F0__law_far
  have c__law_far : Cl PySem.Challenge.rw_codenests_k75_cross_tables.prog w K mg base 5 "_law_far" (sp__law_far K G) := cl_mk F__law_far (He.glo_ok X Gm (c.fact 97 (f := .glo "_law_far") rfl)) (ok__law_far (P := PySem.Challenge.rw_codenests_k75_cross_tables.prog) (w := w) (base := base) F__law_far T c_Ground__init_) (fun _ _ _ _ _ _ us hl => match us, hl with | [_], _ => rfl)
  obtain ⟨fd_part_frame, F0_part_frame⟩ := c.def_ 58 (d := dd58) rfl
  have F_part_frame : Df K "part_frame" "part_frame" (top 47) (He.fAd K ("part_frame", none)) fd_part_frame := F0_part_frame
  have c_part_frame_R : ClX PySem.Challenge.rw_codenests_k75_cross_tables.prog w K mg base 4 "part_frame" (spR_part_frame K G) := ⟨_, fd_part_frame, ["one", "other"], (okR_part_frame (P := PySem.Challenge.rw_codenests_k75_cross_tables.prog) (w := w) (base := base) F_part_frame T c_check_alike_R), He.glo_ok X Gm (c.fact 98 (f := .glo "part_frame") rfl), F_part_frame.kp, F_part_frame.bindsN (fun _ _ _ _ _ _ us hl => match us, hl with | [_, _], _ => rfl)⟩
  obtain ⟨fd__law_is_unlike, F0__law_is_unlike⟩ := c.def_ 59 (d := dd59) rfl
  have F__law_is_unlike : Df K "_law_is_unlike" "_law_is_unlike" (top 70) (He.fAd K ("_law_is_unlike", none)) fd__law_is_unlike := F0__law_is_unlike
  obtain ⟨ocL, odL, dVL, kVL, docL, pmL, anL, cdvL, ctL, oslL, efd, lkL, hcL, _, _⟩ := FL.ex
  subst efd
  obtain ⟨cL, rfl⟩ := He.codeIn_ref hcL
  have ecL : He.codeOf K ("law", none) = cL := He.codeOf_eq lkL rfl
  have scL : FnScope ["_law_script", "_law_source_here", "_law_lap", "_law_ground_here", "_law_ones", "_law_others", "_law_one", "_law_other", "_law_told", "_law_flipped", "_law_pair_here", "_law_n", "_law_f", "_law_g", "_law_due", "_law_far_here", "_law_i", "_law_row", "_law_y", "_law_j"] ["_law_script"] (defScope (top 73)) := ⟨rfl, rfl, rfl, by decide +kernel, rfl, by decide +kernel, by decide +kernel⟩
  have TB2 : LamX.TabB base mg cL (He.cT K ("law", none)).2 := by rw [← ecL]; exact TB
  have bU : Binds K fd__law_is_unlike ["_law_call"] [] := F__law_is_unlike.bindsN (fun _ _ _ _ _ _ us hl => match us, hl with | [_], _ => rfl)
  refine LamX.run_ofS (CX := CX0) (k := 10) (N := ["_law_script", "_law_source_here", "_law_lap", "_law_ground_here", "_law_ones", "_law_others", "_law_one", "_law_other", "_law_told", "_law_flipped", "_law_pair_here", "_law_n", "_law_f", "_law_g", "_law_due", "_law_far_here", "_law_i", "_law_row", "_law_y", "_law_j"]) (ps := ["_law_script"]) (us := [.ref a]) (vs := [.ref a]) lkL hcL scL ⟨rfl, by decide, by decide⟩ E0 (bL s [.ref a] rfl) (.cons rfl .nil) rfl fun hr => ?_
  exact body_law (P := PySem.Challenge.rw_codenests_k75_cross_tables.prog) (w := w) (base := base) (G := G) T c__law_source c__law_any_ground c__law_near_pair c_Part__init_ c_part_table c__law_cross c_Part_blocks c__law_pair c_Nest_codes c__law_units c__law_far c_part_table_R c_part_frame_R F__law_is_unlike (He.glo_ok X Gm (c.fact 100 (f := .glo "_law_is_unlike") rfl)) bU TB2 S.te callerA rfl [] s H [.ref a] (fun v _ => v = .bl true) (fun _ _ _ => False) hr ⟨a, ns, rfl, hS, hlen, hP, fun _ => rfl⟩
end Wk
open PySem PySem.W PySem.Calls PyProof.Rows
set_option maxRecDepth 100000 in
set_option maxHeartbeats 0 in
theorem PySem.Challenge.cw_codenests_k75_cross_tables_holds : PySem.Challenge.rw_codenests_k75_cross_tables.Holds := by
  w_on; o_law
  refine HandSHeadRun.head_any (r := OpenLaw.row PySem.Challenge.rw_codenests_k75_cross_tables) (q := view (OpenLaw.row PySem.Challenge.rw_codenests_k75_cross_tables).prog [73]) (H := Wk.hk) (ob := Wk.ob) (M := 30000) (loose := Wk.loose0 ++ Wk.loose1 ++ Wk.loose2 ++ Wk.loose3 ++ Wk.loose4) (d := HandSHeadRun.topDef (OpenLaw.row PySem.Challenge.rw_codenests_k75_cross_tables).prog 73) (kwd := []) Wk.ob_eq
    (by kernel_rfl) (fun s => by kernel_rfl) Wk.run (by kernel_rfl) (by kernel_rfl) (by kernel_rfl) (by rfl) (by first | assumption | decide +kernel) (by decide +kernel) ⟨rfl, rfl, rfl, rfl, rfl, by decide +kernel⟩ ?hw ?hc
  case hw => w_witness2
  case hc =>
    refine Ly.walk_ofG (l := PySem.Challenge.rw_codenests_k75_cross_tables) (n := 63) rfl (by decide) (by kernel_rfl) ?F
    intro w mg fa h Y G hmg0
    obtain ⟨K, KX, c, tx⟩ := Y
    have hmg : mg ("law" : PySem.Str) = some (.ref fa) := by
      have e : (HandSHeadRun.topDef (OpenLaw.row PySem.Challenge.rw_codenests_k75_cross_tables).prog 73).name = ("law" : PySem.Str) := by kernel_rfl
      rw [← e]
      exact hmg0
    exact ⟨K, _, _, KX, c.empty ("law", none) (List.mem_singleton.mpr rfl), c.out ("law", none) (List.mem_singleton.mpr rfl), codeHd_of_K KX (c.hd ("law", none) (List.mem_singleton.mpr rfl)), fun s a ns hl => Wk.facts KX G hmg c tx s a ns hl⟩
#print axioms PySem.Challenge.cw_codenests_k75_cross_tables_holds
end
