import PyProof.Rows.All
import Wide.All
import OpenK.AllK
import Wide.FinOn
import HandS.ForMost
import HandS.IsInst
import HandS.TupAny
import HandS.Small
import HandS.Deep
import HandS.TupMul
import HandS.Style
import PyProof.P3In
import PyProof.NeData
import KE.DataCmp
import HandS.Walk
import HandS.Zip
import HandS.RaiseMore
import PyProof.Rows.RegReprOcc
import KE.DataMinMax
import KE.KTupSum
import KE.GoesEnum
import PyProof.Rows.StrRev
import KE.SortData
import HandS.Conv
import HandS.Iter
import HandS.SetFor
import HandS.Codes
import PyProof.CollectStr
import HandS.Strs
import PySem.Challenge.RW_wickerwork_k79_whole_words_that_hold
set_option Elab.async false
set_option linter.all false
set_option maxRecDepth 100000
namespace Wk
open PySem PySem.Spec PyProof.Rows L2
abbrev D := PyData
abbrev Cup := Int × Int
abbrev Ev := List (Option D)
abbrev SE := Ev → Cup → Option (D × Cup)
/-! ### values as data -/
def FzL (H : Hp) (a : Addr) (xs : List V) : Prop := ∃ o, H a = some (.frz o (.lst xs))
def okS (x : Str) : Bool := PyData.strOk x && decide (x.length ≤ 16777216)
theorem okS.ok {x : Str} (h : okS x = true) : PyData.strOk x = true := (Bool.and_eq_true_iff.mp h).1
theorem okS.le {x : Str} (h : okS x = true) : x.length ≤ 16777216 := of_decide_eq_true (Bool.and_eq_true_iff.mp h).2
mutual
inductive R (K : PySem.W.Frag) (H : Hp) : V → D → Prop
  | non : R K H .non .none
  | bl (b : Bool) : R K H (.bl b) (.bool b)
  | int (i : Int) : R K H (.int i) (.int i)
  | str (x : Str) (h : okS x = true) : R K H (.str x) (.str x)
  | lst {a : Addr} {xs : List V} {ds : List D} : FzL H a xs → Rs K H xs ds → R K H (.ref a) (.list ds)
  | tup {a : Addr} {xs : List V} {ds : List D} : SqT K H a xs → Rs K H xs ds → R K H (.ref a) (.tuple ds)
inductive Rs (K : PySem.W.Frag) (H : Hp) : List V → List D → Prop
  | nil : Rs K H [] []
  | cons {v : V} {vs : List V} {d : D} {ds : List D} : R K H v d → Rs K H vs ds → Rs K H (v :: vs) (d :: ds)
end
def Fixd : HO → Prop
  | .tup _ => True
  | .frz _ _ => True
  | _ => False
/-- what never changes is kept -/
def Fz (H H' : Hp) : Prop := ∀ a o, H a = some o → Fixd o → H' a = some o
def CupAt (ca : Addr) (c : Cup) (H : Hp) : Prop := H ca = some (.lst [.int c.1, .int c.2])
/-- all but the cup is kept -/
def Sm (ca : Addr) (H H' : Hp) : Prop := ∀ a o, a ≠ ca → H a = some o → H' a = some o
theorem Fz.refl (H : Hp) : Fz H H := fun _ _ h _ => h
theorem Fz.trans {H H1 H2 : Hp} (a : Fz H H1) (b : Fz H1 H2) : Fz H H2 := fun x o h f => b x o (a x o h f) f
theorem Sm.refl {ca : Addr} (H : Hp) : Sm ca H H := fun _ _ _ h => h
theorem Sm.trans {ca : Addr} {H H1 H2 : Hp} (a : Sm ca H H1) (b : Sm ca H1 H2) : Sm ca H H2 := fun x o n h => b x o n (a x o n h)
theorem Sm.fz {ca : Addr} {c : Cup} {H H' : Hp} (s : Sm ca H H') (k : CupAt ca c H) : Fz H H' := fun a o h f => s a o (fun e => by
  subst e
  rw [show H a = _ from k] at h
  cases h
  exact f) h
theorem Sm.was {ca p : Addr} {c : Cup} {H H' : Hp} (s : Sm ca H H') (k : CupAt ca c H') (h : H' p = none) : H p = none := by
  cases q : H p with
  | none => rfl
  | some o =>
    have ne : p ≠ ca := fun e => by rw [e, show H' ca = _ from k] at h; cases h
    rw [s p o ne q] at h
    cases h
theorem Sm.new {ca p : Addr} {H : Hp} {o : HO} (h : H p = none) : Sm ca H (upd H p o) := fun a u _ e => by
  rw [upd_ne (ne_of_none e h)]
  exact e
theorem CupAt.new {ca p : Addr} {c : Cup} {H : Hp} {o : HO} (k : CupAt ca c H) (h : H p = none) : CupAt ca c (upd H p o) := by
  show upd H p o ca = _
  rw [upd_ne (ne_of_none k h)]
  exact k
theorem FzL.mono {H H' : Hp} {a : Addr} {xs : List V} (h : FzL H a xs) (k : Fz H H') : FzL H' a xs := let ⟨o, h⟩ := h; ⟨o, k _ _ h trivial⟩
theorem FzL.rd {H : Hp} {a : Addr} {xs : List V} (h : FzL H a xs) : Rd H a (.lst xs) := .inr h
theorem FzL.sq {K : PySem.W.Frag} {H : Hp} {a : Addr} {xs : List V} (h : FzL H a xs) : SqL K H a xs := .inl (.inr h)
theorem SqT.mono {K : PySem.W.Frag} {H H' : Hp} {a : Addr} {xs : List V} (h : SqT K H a xs) (k : Fz H H') : SqT K H' a xs := by
  rcases h with (h | ⟨o, h⟩) | h
  · exact .inl (.inl (k _ _ h trivial))
  · exact .inl (.inr ⟨o, k _ _ h trivial⟩)
  · exact .inr h
mutual
theorem R.mono {K : PySem.W.Frag} {H H' : Hp} (k : Fz H H') : ∀ {d : D} {v : V}, R K H v d → R K H' v d
  | .none, _, .non => .non
  | .bool _, _, .bl b => .bl b
  | .int _, _, .int i => .int i
  | .str _, _, .str x h => .str x h
  | .list _, _, .lst h r => .lst (h.mono k) (Rs.mono k r)
  | .tuple _, _, .tup h r => .tup (SqT.mono h k) (Rs.mono k r)
theorem Rs.mono {K : PySem.W.Frag} {H H' : Hp} (k : Fz H H') : ∀ {ds : List D} {vs : List V}, Rs K H vs ds → Rs K H' vs ds
  | [], _, .nil => .nil
  | _ :: _, _, .cons h r => .cons (R.mono k h) (Rs.mono k r)
end
mutual
theorem R.dp {K : PySem.W.Frag} {H : Hp} : ∀ {d : D} {v : V}, R K H v d → Dp K H v d
  | .none, _, .non => .non
  | .bool _, _, .bl b => .bl b
  | .int _, _, .int i => .int i
  | .str _, _, .str x _ => .str x
  | .list _, _, .lst h r => .lst h.sq (Rs.dp r)
  | .tuple _, _, .tup h r => .tup h (Rs.dp r)
theorem Rs.dp {K : PySem.W.Frag} {H : Hp} : ∀ {ds : List D} {vs : List V}, Rs K H vs ds → DpAll K H vs ds
  | [], _, .nil => .nil
  | _ :: _, _, .cons h r => .cons (R.dp h) (Rs.dp r)
end
mutual
theorem R.lay {K : PySem.W.Frag} {H : Hp} : ∀ {d : D} {v : V}, R K H v d → d.canLay0 = true
  | .none, _, .non => rfl
  | .bool _, _, .bl b => rfl
  | .int _, _, .int i => rfl
  | .str _, _, .str x h => okS.ok h
  | .list _, _, .lst h r => Rs.lay r
  | .tuple _, _, .tup h r => Rs.lay r
theorem Rs.lay {K : PySem.W.Frag} {H : Hp} : ∀ {ds : List D} {vs : List V}, Rs K H vs ds → PyData.canLayAll0 ds = true
  | [], _, .nil => rfl
  | _ :: _, _, .cons h r => by
    show (PyData.canLay0 _ && PyData.canLayAll0 _) = true
    rw [R.lay h, Rs.lay r]
    rfl
end
theorem Rs.len {K : PySem.W.Frag} {H : Hp} : ∀ {vs : List V} {ds : List D}, Rs K H vs ds → vs.length = ds.length
  | _, _, .nil => rfl
  | _, _, .cons _ r => congrArg (· + 1) r.len
theorem Rs.get {K : PySem.W.Frag} {H : Hp} : ∀ {vs : List V} {ds : List D} {i : Nat} {d : D}, Rs K H vs ds → ds[i]? = some d → ∃ v, vs[i]? = some v ∧ R K H v d
  | _, _, i, d, .nil, h => by simp at h
  | _, _, 0, d, .cons r _, h => by simp at h; subst h; exact ⟨_, rfl, r⟩
  | _, _, i + 1, d, .cons _ t, h => by
    obtain ⟨v, h1, h2⟩ := t.get (i := i) (by simpa using h)
    exact ⟨v, by simpa using h1, h2⟩
theorem Rs.get' {K : PySem.W.Frag} {H : Hp} : ∀ {vs : List V} {ds : List D} {i : Nat} {v : V}, Rs K H vs ds → vs[i]? = some v → ∃ d, ds[i]? = some d ∧ R K H v d
  | _, _, i, d, .nil, h => by simp at h
  | _, _, 0, d, .cons r _, h => by simp at h; subst h; exact ⟨_, rfl, r⟩
  | _, _, i + 1, d, .cons _ t, h => by
    obtain ⟨v, h1, h2⟩ := t.get' (i := i) (by simpa using h)
    exact ⟨v, by simpa using h1, h2⟩
theorem Rs.app {K : PySem.W.Frag} {H : Hp} : ∀ {vs : List V} {ds : List D} {ws : List V} {es : List D}, Rs K H vs ds → Rs K H ws es → Rs K H (vs ++ ws) (ds ++ es)
  | _, _, _, _, .nil, s => s
  | _, _, _, _, .cons r t, s => .cons r (t.app s)
theorem Rs.set {K : PySem.W.Frag} {H : Hp} {v : V} {d : D} (q : R K H v d) : ∀ {vs : List V} {ds : List D} (i : Nat), Rs K H vs ds → Rs K H (vs.set i v) (ds.set i d)
  | _, _, _, .nil => .nil
  | _, _, 0, .cons _ t => .cons q t
  | _, _, i + 1, .cons r t => .cons r (t.set q i)
theorem Rs.take {K : PySem.W.Frag} {H : Hp} : ∀ {vs : List V} {ds : List D} (n : Nat), Rs K H vs ds → Rs K H (vs.take n) (ds.take n)
  | _, _, 0, _ => .nil
  | _, _, _ + 1, .nil => .nil
  | _, _, n + 1, .cons r t => .cons r (t.take n)
theorem Rs.drop {K : PySem.W.Frag} {H : Hp} : ∀ {vs : List V} {ds : List D} (n : Nat), Rs K H vs ds → Rs K H (vs.drop n) (ds.drop n)
  | _, _, 0, r => r
  | _, _, _ + 1, .nil => .nil
  | _, _, n + 1, .cons _ t => t.drop n
theorem Rs.dropLast {K : PySem.W.Frag} {H : Hp} {vs : List V} {ds : List D} (r : Rs K H vs ds) : Rs K H vs.dropLast ds.dropLast := by
  rw [List.dropLast_eq_take, List.dropLast_eq_take, r.len]
  exact r.take _
theorem Rs.reverse {K : PySem.W.Frag} {H : Hp} : ∀ {vs : List V} {ds : List D}, Rs K H vs ds → Rs K H vs.reverse ds.reverse
  | _, _, .nil => .nil
  | _, _, .cons r t => by
    rw [List.reverse_cons, List.reverse_cons]
    exact t.reverse.app (.cons r .nil)
theorem Rs.rep {K : PySem.W.Frag} {H : Hp} {vs : List V} {ds : List D} (r : Rs K H vs ds) : ∀ n : Nat, Rs K H (List.replicate n vs).flatten (List.replicate n ds).flatten
  | 0 => .nil
  | n + 1 => by
    rw [List.replicate_succ, List.replicate_succ, List.flatten_cons, List.flatten_cons]
    exact r.app (r.rep n)
/-- readable now -/
def Rb (K : PySem.W.Frag) (ca : Addr) (H : Hp) (v : V) (d : D) : Prop := R K H v d ∨ ∃ a ds vs, v = .ref a ∧ d = .list ds ∧ a ≠ ca ∧ H a = some (.lst vs) ∧ Rs K H vs ds
theorem Rb.mono {K : PySem.W.Frag} {ca : Addr} {c : Cup} {H H' : Hp} {v : V} {d : D} (r : Rb K ca H v d) (s : Sm ca H H') (k : CupAt ca c H) : Rb K ca H' v d := by
  rcases r with r | ⟨a, ds, vs, e1, e2, n, h, r⟩
  · exact .inl (r.mono (s.fz k))
  · exact .inr ⟨a, ds, vs, e1, e2, n, s _ _ n h, r.mono (s.fz k)⟩
theorem Rb.dp {K : PySem.W.Frag} {ca : Addr} {H : Hp} {v : V} {d : D} (r : Rb K ca H v d) : Dp K H v d := by
  rcases r with r | ⟨a, ds, vs, rfl, rfl, n, h, r⟩
  · exact r.dp
  · exact .lst (.inl (.inl h)) r.dp
theorem Rb.lay {K : PySem.W.Frag} {ca : Addr} {H : Hp} {v : V} {d : D} (r : Rb K ca H v d) : d.canLay0 = true := by
  rcases r with r | ⟨a, ds, vs, rfl, rfl, n, h, r⟩
  · exact r.lay
  · exact r.lay
theorem Rb.int {K : PySem.W.Frag} {ca : Addr} {H : Hp} {v : V} {i : Int} (r : Rb K ca H v (.int i)) : v = .int i := by
  rcases r with r | ⟨a, ds, vs, _, e, _⟩
  · cases r; rfl
  · cases e
theorem Rb.bl {K : PySem.W.Frag} {ca : Addr} {H : Hp} {v : V} {i : Bool} (r : Rb K ca H v (.bool i)) : v = .bl i := by
  rcases r with r | ⟨a, ds, vs, _, e, _⟩
  · cases r; rfl
  · cases e
theorem Rb.str {K : PySem.W.Frag} {ca : Addr} {H : Hp} {v : V} {x : Str} (r : Rb K ca H v (.str x)) : v = .str x ∧ okS x = true := by
  rcases r with r | ⟨a, ds, vs, _, e, _⟩
  · cases r with
    | str _ h => exact ⟨rfl, h⟩
  · cases e
theorem Rb.non {K : PySem.W.Frag} {ca : Addr} {H : Hp} {v : V} (r : Rb K ca H v .none) : v = .non := by
  rcases r with r | ⟨a, ds, vs, _, e, _⟩
  · cases r; rfl
  · cases e
theorem Rb.list {K : PySem.W.Frag} {ca : Addr} {H : Hp} {v : V} {ds : List D} (r : Rb K ca H v (.list ds)) : ∃ a vs, v = .ref a ∧ Rd H a (.lst vs) ∧ Rs K H vs ds := by
  rcases r with r | ⟨a, ds, vs, e1, e2, n, h, r⟩
  · cases r with
    | lst h q => exact ⟨_, _, rfl, h.rd, q⟩
  · cases e2; exact ⟨a, vs, e1, .inl h, r⟩
theorem Rb.tup {K : PySem.W.Frag} {ca : Addr} {H : Hp} {v : V} {ds : List D} (r : Rb K ca H v (.tuple ds)) : ∃ a vs, v = .ref a ∧ SqT K H a vs ∧ Rs K H vs ds := by
  rcases r with r | ⟨a, ds, vs, e1, e2, n, h, r⟩
  · cases r with
    | tup h q => exact ⟨_, _, rfl, h, q⟩
  · cases e2
/-! ### dicts of the frame's own: keys are numbers and texts -/
def kD : L2.Key → D
  | .inl i => .int i
  | .inr x => .str x
inductive DR (K : PySem.W.Frag) (H : Hp) : List (L2.Key × V) → List (D × D) → Prop
  | nil : DR K H [] []
  | cons {k : L2.Key} {v : V} {d : D} {kvs : List (L2.Key × V)} {l : List (D × D)} : R K H v d → DR K H kvs l → DR K H ((k, v) :: kvs) ((kD k, d) :: l)
theorem DR.mono {K : PySem.W.Frag} {H H' : Hp} (k : Fz H H') {kvs : List (L2.Key × V)} {l : List (D × D)} (r : DR K H kvs l) : DR K H' kvs l := by
  induction r with
  | nil => exact .nil
  | cons q _ ih => exact .cons (q.mono k) ih
/-! ### what is static: the cup's slot, the slots that hold lists (and, T, dicts) of the frame's own -/
structure Zs where
  cu : Option Nat
  O : List Nat
  T : List Nat
structure Rel (K : PySem.W.Frag) (z : Zs) (ca : Addr) (He : Hp) (Γ : Ev) (c : Cup) (σ : L2.St) (H : Hp) : Prop where
  cup : CupAt ca c H
  sm : Sm ca He H
  hca : He ca ≠ none
  cu : ∀ i, z.cu = some i → σ[i]? = some (some (.ref ca))
  val : ∀ i d, Γ[i]? = some (some d) → i ∉ z.O → ∃ v, σ[i]? = some (some v) ∧ R K H v d
  own : ∀ i d, Γ[i]? = some (some d) → i ∈ z.O → i ∉ z.T → ∃ a ds vs, d = .list ds ∧ σ[i]? = some (some (.ref a)) ∧ H a = some (.lst vs) ∧ He a = none ∧ Rs K H vs ds
  tab : ∀ i d, Γ[i]? = some (some d) → i ∈ z.O → i ∈ z.T → ∃ a l kvs, d = .dict l ∧ σ[i]? = some (some (.ref a)) ∧ H a = some (.dK kvs) ∧ He a = none ∧ DR K H kvs l
  dis : ∀ i j a d e, i ∈ z.O → j ∈ z.O → i ≠ j → Γ[i]? = some (some d) → Γ[j]? = some (some e) → σ[i]? = some (some (.ref a)) → σ[j]? ≠ some (some (.ref a))
  len : σ.length = Γ.length
theorem Rel.ne {K : PySem.W.Frag} {z : Zs} {ca : Addr} {He : Hp} {Γ : Ev} {c : Cup} {σ : L2.St} {H : Hp} (r : Rel K z ca He Γ c σ H) {a : Addr} (h : He a = none) : a ≠ ca := fun e => r.hca (e ▸ h)
/-- behind an expression -/
theorem Rel.mono {K : PySem.W.Frag} {z : Zs} {ca : Addr} {He : Hp} {Γ : Ev} {c c' : Cup} {σ : L2.St} {H H' : Hp} (r : Rel K z ca He Γ c σ H) (s : Sm ca H H') (k : CupAt ca c' H') : Rel K z ca He Γ c' σ H' where
  cup := k
  sm := r.sm.trans s
  hca := r.hca
  cu := r.cu
  val := fun i d h n => let ⟨v, e, q⟩ := r.val i d h n; ⟨v, e, q.mono (s.fz r.cup)⟩
  own := fun i d h n t => let ⟨a, ds, vs, e1, e2, e3, e4, e5⟩ := r.own i d h n t; ⟨a, ds, vs, e1, e2, s _ _ (r.ne e4) e3, e4, e5.mono (s.fz r.cup)⟩
  tab := fun i d h n t => let ⟨a, l, kvs, e1, e2, e3, e4, e5⟩ := r.tab i d h n t; ⟨a, l, kvs, e1, e2, s _ _ (r.ne e4) e3, e4, e5.mono (s.fz r.cup)⟩
  dis := r.dis
  len := r.len
theorem Rel.any {K : PySem.W.Frag} {z : Zs} {ca : Addr} {He : Hp} {Γ : Ev} {c : Cup} {σ : L2.St} {H : Hp} (r : Rel K z ca He Γ c σ H) {i : Nat} {d : D} (h : Γ[i]? = some (some d)) (n : i ∈ z.O) : ∃ a o, σ[i]? = some (some (.ref a)) ∧ H a = some o ∧ He a = none := by
  by_cases t : i ∈ z.T
  · obtain ⟨a, l, kvs, _, e2, e3, e4, _⟩ := r.tab i d h n t
    exact ⟨a, _, e2, e3, e4⟩
  · obtain ⟨a, ds, vs, _, e2, e3, e4, _⟩ := r.own i d h n t
    exact ⟨a, _, e2, e3, e4⟩
theorem Rel.notT {K : PySem.W.Frag} {z : Zs} {ca : Addr} {He : Hp} {Γ : Ev} {c : Cup} {σ : L2.St} {H : Hp} (r : Rel K z ca He Γ c σ H) {i : Nat} {ds : List D} (h : Γ[i]? = some (some (.list ds))) (n : i ∈ z.O) : i ∉ z.T := fun t => by
  obtain ⟨a, l, kvs, e, _⟩ := r.tab i _ h n t
  cases e
theorem Rel.isT {K : PySem.W.Frag} {z : Zs} {ca : Addr} {He : Hp} {Γ : Ev} {c : Cup} {σ : L2.St} {H : Hp} (r : Rel K z ca He Γ c σ H) {i : Nat} {l : List (D × D)} (h : Γ[i]? = some (some (.dict l))) (n : i ∈ z.O) : i ∈ z.T := by
  by_cases t : i ∈ z.T
  · exact t
  · obtain ⟨a, ds, vs, e, _⟩ := r.own i _ h n t
    cases e
inductive Kd | sh | nw | fr | bo
def RK (K : PySem.W.Frag) : Kd → Hp → Hp → Hp → V → D → Prop
  | .sh, _, _, H', v, d => R K H' v d
  | .nw, _, H, H', v, d => ∃ a ds vs, v = .ref a ∧ d = .list ds ∧ H a = none ∧ H' a = some (.lst vs) ∧ Rs K H' vs ds
  | .fr, _, H, H', v, d => R K H' v d ∨ ∃ a ds vs, v = .ref a ∧ d = .list ds ∧ H a = none ∧ H' a = some (.lst vs) ∧ Rs K H' vs ds
  | .bo, He, _, H', v, d => R K H' v d ∨ ∃ a ds vs, v = .ref a ∧ d = .list ds ∧ He a = none ∧ H' a = some (.lst vs) ∧ Rs K H' vs ds
theorem RK.rb {K : PySem.W.Frag} {k : Kd} {ca : Addr} {c : Cup} {He H H' : Hp} {v : V} {d : D} (q : RK K k He H H' v d) (hc : He ca ≠ none) (hk : CupAt ca c H) : Rb K ca H' v d := by
  cases k with
  | sh => exact .inl q
  | nw =>
    obtain ⟨a, ds, vs, e1, e2, n, h, r⟩ := q
    exact .inr ⟨a, ds, vs, e1, e2, (fun e => by rw [e, show H ca = _ from hk] at n; cases n), h, r⟩
  | fr =>
    rcases q with q | ⟨a, ds, vs, e1, e2, n, h, r⟩
    · exact .inl q
    · exact .inr ⟨a, ds, vs, e1, e2, (fun e => by rw [e, show H ca = _ from hk] at n; cases n), h, r⟩
  | bo =>
    rcases q with q | ⟨a, ds, vs, e1, e2, n, h, r⟩
    · exact .inl q
    · exact .inr ⟨a, ds, vs, e1, e2, fun e => hc (e ▸ n), h, r⟩
def TD (K : PySem.W.Frag) (z : Zs) (k : Kd) (f : SE) : TE := fun σ H Q => ∃ ca He Γ c d c', Rel K z ca He Γ c σ H ∧ f Γ c = some (d, c') ∧ ∀ v H', RK K k He H H' v d → Sm ca H H' → CupAt ca c' H' → Q v H'
structure PD (X : Cx) (z : Zs) (e : Expr) (k : Kd) (f : SE) : Prop where
  pe : PE X e (TD X.K z k f)
theorem pe_imp {X : Cx} {e : Expr} {t t' : TE} (h : PE X e t) (k : ∀ σ H Q, t' σ H Q → t σ H Q) : PE X e t' := ⟨fun pins s σ H Q I w => h.run pins s σ H Q I (k σ H Q w)⟩
theorem pt_imp {X : Cx} {e : Expr} {t t' : TT} (h : PT X e t) (k : ∀ σ H Q, t' σ H Q → t σ H Q) : PT X e t' := ⟨fun pins s σ H Q I w => h.run pins s σ H Q I (k σ H Q w)⟩
theorem pw_imp {X : Cx} {e : Expr} {t t' : TT} (h : PW X e t) (k : ∀ σ H Q, t' σ H Q → t σ H Q) : PW X e t' := ⟨fun wh pins s σ H Q I w => h.run wh pins s σ H Q I (k σ H Q w)⟩
theorem ps_imp {X : Cx} {e : Stmt} {t t' : TS} (h : PS X e t) (k : ∀ D σ H, t' D σ H → t D σ H) : PS X e t' := ⟨fun pins s σ H D I w => h.run pins s σ H D I (k D σ H w)⟩
theorem pss_imp {X : Cx} {e : List Stmt} {t t' : TS} (h : PSs X e t) (k : ∀ D σ H, t' D σ H → t D σ H) : PSs X e t' := ⟨fun pins s σ H D I w => h.run pins s σ H D I (k D σ H w)⟩
theorem pa_imp {X : Cx} {e : List Expr} {t t' : TA} (h : PA X e t) (k : ∀ σ H Q, t' σ H Q → t σ H Q) : PA X e t' := ⟨fun pos pins s σ H Q I w => h.run pos pins s σ H Q I (k σ H Q w)⟩
section
variable {X : Cx} {z : Zs} {a b e : Expr} {k k' : Kd} {f fa fb : SE} {pos : Pos}
/-- a weaker kind -/
theorem PD.bo (h : PD X z e k f) : PD X z e .bo f := ⟨pe_imp h.pe fun σ H Q ⟨ca, He, Γ, c, d, c', r, e, q⟩ => ⟨ca, He, Γ, c, d, c', r, e, fun v H' rk s u => q v H' (by
  cases k with
  | sh => exact .inl rk
  | bo => exact rk
  | nw =>
    obtain ⟨a, ds, vs, e1, e2, n, h, rr⟩ := rk
    exact .inr ⟨a, ds, vs, e1, e2, r.sm.was r.cup n, h, rr⟩
  | fr =>
    rcases rk with rk | ⟨a, ds, vs, e1, e2, n, h, rr⟩
    · exact .inl rk
    · exact .inr ⟨a, ds, vs, e1, e2, r.sm.was r.cup n, h, rr⟩) s u⟩⟩
theorem PD.nfr (h : PD X z e .nw f) : PD X z e .fr f := ⟨pe_imp h.pe fun σ H Q ⟨ca, He, Γ, c, d, c', r, e, q⟩ => ⟨ca, He, Γ, c, d, c', r, e, fun v H' rk s u => q v H' (.inr rk) s u⟩⟩
theorem PD.fr (h : PD X z e .sh f) : PD X z e .fr f := ⟨pe_imp h.pe fun σ H Q ⟨ca, He, Γ, c, d, c', r, e, q⟩ => ⟨ca, He, Γ, c, d, c', r, e, fun v H' rk s u => q v H' (.inl rk) s u⟩⟩
/-- a new list is frozen -/
theorem PD.frz (h : PD X z e .fr f) : PD X z e .sh f := by
  refine ⟨⟨fun pins s σ H Q I w => ?_⟩⟩
  obtain ⟨ca, He, Γ, c, d, c', r, e, q⟩ := w
  refine thn (h.pe.run pins s σ H (fun v H' => RK X.K .fr He H H' v d ∧ Sm ca H H' ∧ CupAt ca c' H') I ⟨ca, He, Γ, c, d, c', r, e, fun v H' a b c => ⟨a, b, c⟩⟩) fun u s1 ⟨v, H1, I1, rv, rk, s1', k1⟩ => ?_
  rcases rk with rk | ⟨a, ds, vs, rfl, rfl, n, h, rr⟩
  · exact ⟨v, H1, I1, rv, q v H1 rk s1' k1⟩
  · obtain ⟨od, I2⟩ := I1.lock h (show Mut (some (.lst vs)) from trivial)
    have na : a ≠ ca := fun e => by rw [e, show H ca = _ from r.cup] at n; cases n
    have fz : Fz H1 (upd H1 a (.frz od (.lst vs))) := fun b o hb fo => by
      rw [upd_ne]
      · exact hb
      · rintro rfl
        rw [h] at hb
        cases hb
        exact fo
    refine ⟨_, _, I2, rv, q _ _ (.lst ⟨od, upd_same⟩ (rr.mono fz)) (fun b o nb hb => ?_) ?_⟩
    · rw [upd_ne (fun e => by rw [e, n] at hb; cases hb)]
      exact s1' b o nb hb
    · show upd _ _ _ ca = _
      rw [upd_ne na.symm]
      exact k1
/-! ### names, constants -/
def sVar (i : Nat) : SE := fun Γ c => ((Γ[i]?).bind id).map fun d => (d, c)
def sC (d : D) : SE := fun _ c => some (d, c)
theorem sVar_some {i : Nat} {Γ : Ev} {c c' : Cup} {d : D} (h : sVar i Γ c = some (d, c')) : Γ[i]? = some (some d) ∧ c' = c := by
  unfold sVar at h
  cases q : Γ[i]? with
  | none => rw [q] at h; cases h
  | some o =>
    rw [q] at h
    cases o with
    | none => cases h
    | some d' => cases h; exact ⟨rfl, rfl⟩
theorem pd_var (i : Nat) {x : Str} (hN : X.N[i]? = some x := by rfl) (hO : i ∉ z.O := by decide) (hv : Vis X.env.scope x := by first | exact Or.inl rfl | exact Or.inr (Or.inl rfl) | exact Or.inr (Or.inr rfl)) (hd : (x == ("__debug__" : Str)) = false := by decide)
    (hcd : (x == ("__classdict__" : Str)) = false := by decide) : PD X z (.Name x pos) .sh (sVar i) :=
  ⟨pe_imp (pe_var hN hv hd hcd) fun σ H Q ⟨ca, He, Γ, c, d, c', r, e, q⟩ => by
    obtain ⟨h, rfl⟩ := sVar_some e
    obtain ⟨v, hv, rv⟩ := r.val i d h hO
    exact ⟨v, hv, q v H rv (.refl H) r.cup⟩⟩
theorem pd_own (i : Nat) {x : Str} (hN : X.N[i]? = some x := by rfl) (hO : i ∈ z.O := by decide) (hT : i ∉ z.T := by decide) (hv : Vis X.env.scope x := by first | exact Or.inl rfl | exact Or.inr (Or.inl rfl) | exact Or.inr (Or.inr rfl)) (hd : (x == ("__debug__" : Str)) = false := by decide)
    (hcd : (x == ("__classdict__" : Str)) = false := by decide) : PD X z (.Name x pos) .bo (sVar i) :=
  ⟨pe_imp (pe_var hN hv hd hcd) fun σ H Q ⟨ca, He, Γ, c, d, c', r, e, q⟩ => by
    obtain ⟨h, rfl⟩ := sVar_some e
    obtain ⟨a, ds, vs, e1, e2, e3, e4, e5⟩ := r.own i d h hO hT
    exact ⟨_, e2, q _ H (.inr ⟨a, ds, vs, rfl, e1, e4, e3, e5⟩) (.refl H) r.cup⟩⟩
theorem pd_c {v : V} {d : D} (h : PE X e (tC v)) (hr : ∀ H, R X.K H v d) : PD X z e .sh (sC d) :=
  ⟨pe_imp h fun σ H Q ⟨ca, He, Γ, c, d', c', r, e, q⟩ => by
    cases e
    exact q v H (hr H) (.refl H) r.cup⟩
theorem pd_int {i : Int} {j pos} : PD X z (.Constant (.int i) j pos) .sh (sC (.int i)) := pd_c pe_int fun _ => .int i
theorem pd_bl {b : Bool} {j pos} : PD X z (.Constant (.bool b) j pos) .sh (sC (.bool b)) := pd_c pe_bl fun _ => .bl b
theorem pd_non {j pos} : PD X z (.Constant .none j pos) .sh (sC .none) := pd_c pe_non fun _ => .non
theorem pd_str {x : Str} {j pos} (h : okS x = true := by decide +kernel) : PD X z (.Constant (.str x) j pos) .sh (sC (.str x)) := pd_c pe_str fun _ => .str x h
/-! ### operators -/
def sOp (g : D → D → Option D) (fa fb : SE) : SE := fun Γ c => (fa Γ c).bind fun p => (fb Γ p.2).bind fun q => (g p.1 q.1).map fun r => (r, q.2)
theorem sOp_some {g : D → D → Option D} {Γ : Ev} {c c' : Cup} {d : D} (h : sOp g fa fb Γ c = some (d, c')) : ∃ x c1 y, fa Γ c = some (x, c1) ∧ fb Γ c1 = some (y, c') ∧ g x y = some d := by
  unfold sOp at h
  cases h1 : fa Γ c with
  | none => rw [h1] at h; cases h
  | some p =>
    obtain ⟨x, c1⟩ := p
    rw [h1] at h
    simp only [Option.bind_some] at h
    cases h2 : fb Γ c1 with
    | none => rw [h2] at h; cases h
    | some q =>
      obtain ⟨y, c2⟩ := q
      rw [h2] at h
      simp only [Option.bind_some] at h
      cases h3 : g x y with
      | none => rw [h3] at h; cases h
      | some r => rw [h3] at h; cases h; exact ⟨x, c1, y, rfl, h2, h3⟩
/-- by a rule upon values: from readable operands; it may lay new objects -/
def Op2 (X : Cx) (k : Kd) (f : Value → Value → Sem Value) (g : D → D → Option D) : Prop := ∃ r : R2, OpR X f r ∧
  ∀ (ca : Addr) (c : Cup) (He H : Hp) (x y : V) (dx dy d : D) (Q : VK), Rb X.K ca H x dx → Rb X.K ca H y dy → g dx dy = some d → CupAt ca c H →
    (∀ v H', RK X.K k He H H' v d → Sm ca H H' → CupAt ca c H' → Q v H') → r x y H Q
/-- from two states the kind's fact carries over -/
theorem RK.step {K : PySem.W.Frag} {k : Kd} {ca : Addr} {c : Cup} {He H H1 H' : Hp} {v : V} {d : D} (q : RK K k He H1 H' v d) (s : Sm ca H H1) (u : CupAt ca c H1) : RK K k He H H' v d := by
  cases k with
  | sh => exact q
  | bo => exact q
  | nw =>
    obtain ⟨a, ds, vs, e1, e2, n, h, r⟩ := q
    exact ⟨a, ds, vs, e1, e2, s.was u n, h, r⟩
  | fr =>
    rcases q with q | ⟨a, ds, vs, e1, e2, n, h, r⟩
    · exact .inl q
    · exact .inr ⟨a, ds, vs, e1, e2, s.was u n, h, r⟩
theorem tOp_of {r : R2} {g : D → D → Option D} {kk : Kd} {K : PySem.W.Frag} {k k' : Kd}
    (hr : ∀ (ca : Addr) (c : Cup) (He H : Hp) (x y : V) (dx dy d : D) (Q : VK), Rb K ca H x dx → Rb K ca H y dy → g dx dy = some d → CupAt ca c H →
    (∀ v H', RK K kk He H H' v d → Sm ca H H' → CupAt ca c H' → Q v H') → r x y H Q) (σ : L2.St) (H : Hp) (Q : VK) (w : TD K z kk (sOp g fa fb) σ H Q) : tOp r (TD K z k fa) (TD K z k' fb) σ H Q := by
  obtain ⟨ca, He, Γ, c, d, c', rl, e, q⟩ := w
  obtain ⟨dx, c1, dy, e1, e2, e3⟩ := sOp_some e
  refine ⟨ca, He, Γ, c, dx, c1, rl, e1, fun x H1 rx s1 u1 => ?_⟩
  refine ⟨ca, He, Γ, c1, dy, c', rl.mono s1 u1, e2, fun y H2 ry s2 u2 => ?_⟩
  refine hr ca c' He H2 x y dx dy d Q ((rx.rb rl.hca rl.cup).mono s2 u1) (ry.rb rl.hca u1) e3 u2 fun v H' rv s3 u3 => ?_
  exact q v H' (rv.step (s1.trans s2) u2) ((s1.trans s2).trans s3) u3
theorem pd_op {op : Operator} {g : D → D → Option D} {kk : Kd} (ho : Op2 X kk (binaryOp op) g) (ha : PD X z a k fa) (hb : PD X z b k' fb) : PD X z (.BinOp a op b pos) kk (sOp g fa fb) := by
  obtain ⟨r, h1, h2⟩ := ho
  exact ⟨pe_imp (pe_op h1 ha.pe hb.pe) (tOp_of h2)⟩
theorem pd_cmp {op : CmpOp} {g : D → D → Option D} {kk : Kd} (ho : Op2 X kk (compareOp op) g) (ha : PD X z a k fa) (hb : PD X z b k' fb) (hm : behindInMarks op b = false := by rfl) : PD X z (.Compare a [op] [b] pos) kk (sOp g fa fb) := by
  obtain ⟨r, h1, h2⟩ := ho
  exact ⟨pe_imp (pe_cmpR h1 ha.pe hb.pe hm) (tOp_of h2)⟩
end
end Wk
set_option Elab.async false
set_option linter.all false
set_option maxRecDepth 100000
set_option maxHeartbeats 4000000
namespace Wk
open PySem PySem.Spec PyProof.Rows L2
/-! ### texts as lists of signs -/
def cl (x : Str) : List Nat := x.cps.toList
abbrev ps (l : List Nat) : D := .str ⟨l.toArray⟩
@[simp] theorem cl_mk (l : List Nat) : cl ⟨l.toArray⟩ = l := by simp [cl]
theorem cl_ps (x : Str) : (⟨(cl x).toArray⟩ : Str) = x := by
  obtain ⟨a⟩ := x
  simp [cl]
theorem len_cl (x : Str) : x.length = (cl x).length := by simp [cl, Str.length]
theorem ok_cl (x : Str) : PyData.strOk x = (cl x).all (fun n => decide (n < 0x110000)) := by
  obtain ⟨a⟩ := x
  simp [cl, PyData.strOk]
theorem ok_mk (l : List Nat) : PyData.strOk ⟨l.toArray⟩ = l.all (fun n => decide (n < 0x110000)) := by rw [ok_cl, cl_mk]
theorem okS_mk (l : List Nat) : okS ⟨l.toArray⟩ = ((l.all fun n => decide (n < 0x110000)) && decide (l.length ≤ 16777216)) := by
  unfold okS
  rw [ok_mk, len_cl, cl_mk]
theorem okS_cl (x : Str) : okS x = (((cl x).all fun n => decide (n < 0x110000)) && decide ((cl x).length ≤ 16777216)) := by
  unfold okS
  rw [ok_cl, len_cl]
theorem okS_of {l : List Nat} (h1 : ∀ n ∈ l, n < 0x110000) (h2 : l.length ≤ 16777216) : okS ⟨l.toArray⟩ = true := by
  rw [okS_mk, Bool.and_eq_true]
  exact ⟨List.all_eq_true.mpr fun n hn => decide_eq_true (h1 n hn), decide_eq_true h2⟩
theorem okS_in {x : Str} (h : okS x = true) : (∀ n ∈ cl x, n < 0x110000) ∧ (cl x).length ≤ 16777216 := by
  rw [okS_cl, Bool.and_eq_true] at h
  exact ⟨fun n hn => of_decide_eq_true (List.all_eq_true.mp h.1 n hn), of_decide_eq_true h.2⟩
theorem str_app (x y : Str) : x ++ y = ⟨(cl x ++ cl y).toArray⟩ := by
  show Str.mk (x.cps ++ y.cps) = _
  congr 1
  simp [cl]
/-! ### arithmetic -/
def oAdd : D → D → Option D
  | .int a, .int b => some (.int (a + b))
  | .str a, .str b => if (cl a).length + (cl b).length ≤ 16777216 then some (ps (cl a ++ cl b)) else none
  | .list a, .list b => if a.length + b.length ≤ 16777216 then some (.list (a ++ b)) else none
  | .tuple a, .tuple b => if a.length + b.length ≤ 16777216 then some (.tuple (a ++ b)) else none
  | _, _ => none
def oSub : D → D → Option D
  | .int a, .int b => some (.int (a - b))
  | _, _ => none
def oMul : D → D → Option D
  | .int a, .int b => if (-(2 ^ 64) < a ∧ a < 2 ^ 64) ∨ (-(2 ^ 64) < b ∧ b < 2 ^ 64) then some (.int (a * b)) else none
  | .str a, .int k => if k ≤ 16777216 ∧ (cl a).length * k.toNat ≤ 16777216 ∧ 0 ≤ k then some (ps (List.replicate k.toNat (cl a)).flatten) else none
  | .list a, .int k => if a.length * k.toNat ≤ 16777216 ∧ -(2 ^ 63) ≤ k ∧ k < 2 ^ 63 then some (.list (List.replicate k.toNat a).flatten) else none
  | .tuple a, .int k => if a ≠ [] ∧ 1 ≤ k ∧ k ≤ 1000 ∧ a.length ≤ 1000 then some (.tuple (List.replicate k.toNat a).flatten) else none
  | _, _ => none
def oDiv : D → D → Option D
  | .int a, .int b => if 0 < b ∧ b < 1073741824 then some (.int (a / b)) else none
  | _, _ => none
def oMod : D → D → Option D
  | .int a, .int b => if 0 < b then some (.int (a % b)) else none
  | _, _ => none
def oPow : D → D → Option D
  | .int a, .int b => if 0 ≤ b ∧ b ≤ 1000000 ∧ a.natAbs < 2 ^ 64 then some (.int (a ^ b.toNat)) else none
  | _, _ => none
theorem sizeLine_is : sizeLine = 16777216 := by decide
section
variable {X : Cx}
theorem rdL {pins : List (Addr × Obj)} {σ : L2.St} {H : Hp} {s : Shared} {l : Addr} {xs : List V} (I : Inv X pins σ H s) (hH : Rd H l (.lst xs)) : xs.length ≤ sizeLine ∧ ∃ (its : List Value) (n : Nat), Vals xs its ∧ xs.length = its.length ∧ s.heap.get? l = some { cls := .type "list", data := .seq its.toArray n } := by
  obtain ⟨z, its, n, r, e⟩ := hH.ok I.hok
  exact ⟨z, its, n, r, r.length, e⟩
def rCatR : R2 := fun x y H Q => ∃ l b xs zs, x = .ref l ∧ y = .ref b ∧ Rd H l (.lst xs) ∧ Rd H b (.lst zs) ∧ xs.length + zs.length ≤ sizeLine ∧ ∀ p, H p = none → Q (.ref p) (upd H p (.lst (xs ++ zs)))
theorem op_catR : OpR X (binaryOp .Add) rCatR := by
  intro pins s σ H x y v u Q I rx ry h
  obtain ⟨l, b, xs, zs, rfl, rfl, hH, hB, hz, q⟩ := h
  cases rx
  cases ry
  obtain ⟨z, its, n, r, hl, e⟩ := rdL I hH
  obtain ⟨z2, its2, n2, r2, hl2, e2⟩ := rdL I hB
  refine PySem.P.add_list e e2 ?_ (by rw [List.size_toArray, List.size_toArray]; omega)
  have ea : its.toArray ++ its2.toArray = (its ++ its2).toArray := by simp
  rw [ea]
  exact ⟨.ref _, _, I.lnew (t' := s.toks) (r.append r2) (by rw [List.length_append]; omega), rfl, q _ I.fresh⟩
def rRepR : R2 := fun x y H Q => ∃ l k xs, x = .ref l ∧ y = .int k ∧ Rd H l (.lst xs) ∧ -(2 ^ 63) ≤ k ∧ k < 2 ^ 63 ∧ xs.length * k.toNat ≤ sizeLine ∧
  ∀ p, H p = none → Q (.ref p) (upd H p (.lst (List.replicate k.toNat xs).flatten))
theorem op_repR : OpR X (binaryOp .Mult) rRepR := by
  intro pins s σ H x y v u Q I rx ry h
  obtain ⟨l, k, xs, rfl, rfl, hH, h1, h2, hz, q⟩ := h
  cases rx
  obtain ⟨t, rfl⟩ := ry
  obtain ⟨z, its, n, r, hl, e⟩ := rdL I hH
  have hlen : its.toArray.size * k.toNat ≤ sizeLine := by rw [List.size_toArray, ← hl]; exact hz
  have hcap : ¬ its.toArray.size * k.toNat > (2 ^ 63 - 1) / 8 := by
    have : (sizeLine : Nat) ≤ (2 ^ 63 - 1) / 8 := by decide
    omega
  have hfit : ¬ (!Builtin.List.listFitsIndex k) = true := by
    rw [fitsIndex_both h1 h2]
    exact Bool.false_ne_true
  have hlong : ¬ Builtin.List.listTooLong (its.toArray.size * k.toNat) = true := by
    rw [notLongL hlen]
    exact Bool.false_ne_true
  have hnew : List.foldl (fun x1 x2 => x1 ++ x2) #[] (List.replicate (if its.toArray.isEmpty = true then 0 else k.toNat) its.toArray) = (List.replicate k.toNat its).flatten.toArray := by
    have f0 : ∀ m : Nat, List.foldl (fun x1 x2 => x1 ++ x2) #[] (List.replicate m its.toArray) = (List.replicate m its).flatten.toArray := fun m => by
      have := foldl_rep its m []
      rw [List.nil_append] at this
      exact this
    rw [f0]
    cases its with
    | nil => simp
    | cons a r' => rw [if_neg (by simp)]
  refine wpAny_binaryOp_repeat_ref (T := "list") (U := "int") (by decide) ⟨_, e, rfl⟩ (fun s' => typeIs_int s' k t) noFill_list_mul F.fills_int_mul F.slot_int_rmul repeat_list F.slot_int_index.lookup
    (call_meets F.slot_int_rmul (typeIs_int s k t) F.entry_int_rmul (F.args_int_rmul_2 _ _) (int___rmul___int_list k t l its.toArray n)
      ⟨e, rfl, ⟨_, e, rfl⟩, call_meets F.slot_list_mul ⟨_, e, rfl⟩ F.entry_list_mul (F.args_list_mul_2 _ _) (AutoListH.list___mul___list_int_3 l its.toArray n k t hfit hcap hlong) ⟨e, ?_⟩⟩)
  rw [hnew]
  exact ⟨.ref _, _, I.lnew (t' := s.toks) (r.rep k.toNat) (by rw [PyProof.Rows.lm_len_rep_flat, Nat.mul_comm]; exact hz), rfl, q _ I.fresh⟩
theorem foldl_app_rep (c : List Nat) : ∀ (k : Nat) (acc : List Nat), ((List.replicate k c.toArray).foldl (· ++ ·) acc.toArray) = (acc ++ (List.replicate k c).flatten).toArray
  | 0, acc => by simp
  | k + 1, acc => by
    rw [List.replicate_succ, List.foldl_cons, List.replicate_succ, List.flatten_cons]
    have := foldl_app_rep c k (acc ++ c)
    rw [← List.append_assoc, ← this]
    congr 1
    simp
/-- a text times an int -/
theorem op_repS : OpR X (binaryOp .Mult) (fun x y H Q => ∃ (z : Str) (k : Int), x = .str z ∧ y = .int k ∧ 0 ≤ k ∧ k ≤ 16777216 ∧ z.length * k.toNat ≤ 16777216 ∧ Q (.str ⟨(List.replicate k.toNat (cl z)).flatten.toArray⟩) H) := by
  intro pins s σ H x y v u Q I rx ry h
  obtain ⟨z, k, rfl, rfl, h0, h1, h2, q⟩ := h
  obtain ⟨t, rfl⟩ := rx
  obtain ⟨t', rfl⟩ := ry
  have hmul : MulOk z k := mulOk_of z.length k.toNat (Nat.le_refl _) (by omega) (by omega) (by omega) (by omega)
  obtain ⟨m1, m2, m3⟩ := hmul
  refine PySem.P.mul_str m1 m2 m3 ?_
  by_cases hk : k < 1
  · rw [if_pos hk]
    have e : k = 0 := by omega
    subst e
    exact ⟨by decide, .str _, H, I.tok _, ⟨_, rfl⟩, q⟩
  · rw [if_neg hk]
    have fl : (⟨(List.replicate k.toNat z.cps).foldl (· ++ ·) #[]⟩ : Str) = ⟨(List.replicate k.toNat (cl z)).flatten.toArray⟩ := by
      have := foldl_app_rep (cl z) k.toNat []
      rw [List.nil_append] at this
      rw [← this]
      obtain ⟨a⟩ := z
      simp [cl]
    split
    · rename_i hc
      have e : (⟨(List.replicate k.toNat (cl z)).flatten.toArray⟩ : Str) = z := by
        rw [Bool.or_eq_true, beq_iff_eq, beq_iff_eq] at hc
        rcases hc with h | h
        · subst h
          obtain ⟨a⟩ := z
          simp [cl]
        · rw [len_cl] at h
          have e0 : cl z = [] := List.eq_nil_of_length_eq_zero h
          have ez : z = ⟨#[]⟩ := by rw [← cl_ps z, e0]
          rw [e0, ez]
          simp
      rw [e] at q
      exact ⟨.str z, H, I, ⟨_, rfl⟩, q⟩
    · rw [fl]
      refine ⟨?_, .str _, H, I.tok _, ⟨_, rfl⟩, q⟩
      rw [len_cl, cl_mk, PyProof.Rows.lm_len_rep_flat, sizeLine_is, Nat.mul_comm, ← len_cl]
      exact h2
/-! ### the rules upon data -/
theorem rk_new {K : PySem.W.Frag} {He H : Hp} {ca p : Addr} {c : Cup} {xs : List V} {ds : List D} (h : H p = none) (r : Rs K H xs ds) (u : CupAt ca c H) : RK K .fr He H (upd H p (.lst xs)) (.ref p) (.list ds) :=
  .inr ⟨p, ds, xs, rfl, rfl, h, upd_same, r.mono ((Sm.new h).fz u)⟩
theorem rk_newN {K : PySem.W.Frag} {He H : Hp} {ca p : Addr} {c : Cup} {xs : List V} {ds : List D} (h : H p = none) (r : Rs K H xs ds) (u : CupAt ca c H) : RK K .nw He H (upd H p (.lst xs)) (.ref p) (.list ds) :=
  ⟨p, ds, xs, rfl, rfl, h, upd_same, r.mono ((Sm.new h).fz u)⟩
theorem rk_tup {K : PySem.W.Frag} {H : Hp} {ca p : Addr} {c : Cup} {xs : List V} {ds : List D} (h : H p = none) (r : Rs K H xs ds) (u : CupAt ca c H) : R K (upd H p (.tup xs)) (.ref p) (.tuple ds) :=
  .tup (.inl (.inl upd_same)) (r.mono ((Sm.new h).fz u))
theorem Rs.nil_l {K : PySem.W.Frag} {H : Hp} {xs : List V} {ds : List D} (r : Rs K H xs ds) : xs = [] ↔ ds = [] := by
  cases r <;> simp
theorem o2_add : Op2 X .fr (binaryOp .Add) oAdd := by
  refine ⟨_, OpR.or op_add (OpR.or op_add_str (OpR.or op_catR op_catA)), fun ca c He H x y dx dy d Q rx ry e u q => ?_⟩
  unfold oAdd at e
  split at e
  · cases e
    cases rx.int
    cases ry.int
    exact .inl ⟨_, _, rfl, rfl, q _ H (.inl (.int _)) (.refl H) u⟩
  · split at e
    · rename_i a b hz
      cases e
      obtain ⟨e1, o1⟩ := rx.str
      obtain ⟨e2, o2⟩ := ry.str
      refine .inr (.inl ⟨a, b, e1, e2, ?_, ?_⟩)
      · rw [len_cl, len_cl, sizeLine_is]; exact hz
      · rw [str_app]
        refine q _ H (.inl (.str _ ?_)) (.refl H) u
        refine okS_of (fun n hn => ?_) (by rw [List.length_append]; exact hz)
        rcases List.mem_append.mp hn with hn | hn
        · exact (okS_in o1).1 n hn
        · exact (okS_in o2).1 n hn
    · cases e
  · split at e
    · rename_i a b hz
      cases e
      obtain ⟨l, vs, e1, h1, r1⟩ := rx.list
      obtain ⟨m, ws, e2, h2, r2⟩ := ry.list
      refine .inr (.inr (.inl ⟨l, m, vs, ws, e1, e2, h1, h2, ?_, fun p hp => ?_⟩))
      · rw [r1.len, r2.len, sizeLine_is]; exact hz
      · exact q _ _ (rk_new hp (r1.app r2) u) (.new hp) (u.new hp)
    · cases e
  · split at e
    · rename_i a b hz
      cases e
      obtain ⟨l, vs, e1, h1, r1⟩ := rx.tup
      obtain ⟨m, ws, e2, h2, r2⟩ := ry.tup
      refine .inr (.inr (.inr ⟨l, m, vs, ws, e1, e2, h1, h2, ?_, fun z => ?_, fun _ z => ?_, fun _ _ p hp => ?_⟩))
      · rw [r1.len, r2.len, sizeLine_is]; exact hz
      · have z' := r1.nil_l.mp z
        subst z'
        exact q _ H (.inl (.tup h2 r2)) (.refl H) u
      · have z' := r2.nil_l.mp z
        subst z'
        rw [List.append_nil] at q
        exact q _ H (.inl (.tup h1 r1)) (.refl H) u
      · exact q _ _ (.inl (rk_tup hp (r1.app r2) u)) (.new hp) (u.new hp)
    · cases e
  · cases e
theorem o2_sub : Op2 X .sh (binaryOp .Sub) oSub := by
  refine ⟨_, op_sub, fun ca c He H x y dx dy d Q rx ry e u q => ?_⟩
  unfold oSub at e
  split at e
  · cases e
    cases rx.int
    cases ry.int
    exact ⟨_, _, rfl, rfl, q _ H (.int _) (.refl H) u⟩
  · cases e
theorem ok_rep {l : List Nat} (h : (l.all fun n => decide (n < 0x110000)) = true) : ∀ n : Nat, ((List.replicate n l).flatten.all fun n => decide (n < 0x110000)) = true
  | 0 => rfl
  | n + 1 => by
    rw [List.replicate_succ, List.flatten_cons, List.all_append, h, ok_rep h n]
    rfl
theorem tuple_mulW1 (l : Addr) (items : Array Value) (n : Nat) (dd : Option Addr) (sl : Array (Option Value)) (x : Int) (u : Tok) (c0 : (decide (x < -(2 ^ 63)) || decide (x ≥ 2 ^ 63)) = false) (c1 : (items.isEmpty || x == 1) = true) :
    Meets (Builtin.«tuple.__mul__» ⟨[.ref l, .int x u], []⟩) (fun _ R s => s.heap.get? l = some { cls := .type "tuple", dict := dd, data := .seq items n, slots := sl } ∧
      R (.ok (.ret (Value.ref l))) s) :=
  .of_wp fun prog w A R s h => by
    obtain ⟨hp, g, d, tk, os⟩ := s
    obtain ⟨hl, h⟩ := h
    have f1 := AutoSeq1.idx_int
    wp_walk using wpAny_loadPart' hl
    refine wpAny_ite_false (decide_eq_false (by rw [c0]; exact Bool.false_ne_true)) ?_
    wp_walk using wpAny_loadPart' hl
    exact ⟨_, rfl, h⟩
def rRepT1 (K : PySem.W.Frag) : R2 := fun x y H Q => ∃ l xs, x = .ref l ∧ y = .int 1 ∧ SqT K H l xs ∧ Q (.ref l) H
section
variable {X : Cx}
theorem op_repT1 : OpR X (binaryOp .Mult) (rRepT1 X.K) := by
  intro pins s σ H x y v u Q I rx ry h
  obtain ⟨l, xs, rfl, rfl, hT, q⟩ := h
  cases rx
  obtain ⟨t, rfl⟩ := ry
  obtain ⟨its, r, ⟨⟨cls, dd, data, sl⟩, ho, hc, n, hd⟩, hs⟩ := I.tuple hT
  simp only at hc hd
  subst hc hd
  have c1 : (its.toArray.isEmpty || (1 : Int) == 1) = true := Bool.or_true _
  refine wpAny_binaryOp_repeat_ref (T := "tuple") (U := "int") (by decide) ⟨_, ho, rfl⟩ (fun s' => typeIs_int s' 1 t) noFill_tuple_mul F.fills_int_mul F.slot_int_rmul repeat_tuple F.slot_int_index.lookup
    (call_meets F.slot_int_rmul (typeIs_int s 1 t) F.entry_int_rmul (F.args_int_rmul_2 _ _) (int_rmul_tuple 1 t l its.toArray n dd sl)
      ⟨ho, rfl, ⟨_, ho, rfl⟩, call_meets F.slot_tuple_mul ⟨_, ho, rfl⟩ F.entry_tuple_mul (F.args_tuple_mul_2 _ _) (tuple_mulW1 l its.toArray n dd sl 1 t (by decide) c1) ⟨ho, ?_⟩⟩)
  exact ⟨.ref l, H, I, rfl, q⟩
end
theorem o2_mul : Op2 X .fr (binaryOp .Mult) oMul := by
  refine ⟨_, OpR.or op_mul (OpR.or op_repS (OpR.or op_repR (OpR.or op_repT op_repT1))), fun ca c He H x y dx dy d Q rx ry e u q => ?_⟩
  unfold oMul at e
  split at e
  · split at e
    · rename_i hz
      cases e
      cases rx.int
      cases ry.int
      exact .inl ⟨_, _, rfl, rfl, hz, q _ H (.inl (.int _)) (.refl H) u⟩
    · cases e
  · split at e
    · rename_i a b hz
      cases e
      obtain ⟨e1, o1⟩ := rx.str
      cases ry.int
      refine .inr (.inl ⟨a, b, e1, rfl, hz.2.2, hz.1, ?_, ?_⟩)
      · rw [len_cl]; exact hz.2.1
      · refine q _ H (.inl (.str _ ?_)) (.refl H) u
        refine okS_of (fun n hn => ?_) (by rw [PyProof.Rows.lm_len_rep_flat, Nat.mul_comm]; exact hz.2.1)
        exact of_decide_eq_true (List.all_eq_true.mp (ok_rep (l := cl a) (List.all_eq_true.mpr fun n hn => decide_eq_true ((okS_in o1).1 n hn)) _) n hn)
    · cases e
  · split at e
    · rename_i a b hz
      cases e
      obtain ⟨l, vs, e1, h1, r1⟩ := rx.list
      cases ry.int
      refine .inr (.inr (.inl ⟨l, b, vs, e1, rfl, h1, hz.2.1, hz.2.2, ?_, fun p hp => ?_⟩))
      · rw [r1.len, sizeLine_is]; exact hz.1
      · exact q _ _ (rk_new hp (r1.rep _) u) (.new hp) (u.new hp)
    · cases e
  · split at e
    · rename_i a b hz
      cases e
      obtain ⟨l, vs, e1, h1, r1⟩ := rx.tup
      cases ry.int
      by_cases h2 : 2 ≤ b
      · refine .inr (.inr (.inr (.inl ⟨l, b, vs, e1, rfl, h1, fun z => hz.1 (r1.nil_l.mp z), h2, hz.2.2.1, ?_, fun p hp => ?_⟩)))
        · rw [r1.len]; exact hz.2.2.2
        · exact q _ _ (.inl (rk_tup hp (r1.rep _) u)) (.new hp) (u.new hp)
      · have hb : b = 1 := by omega
        subst hb
        have e3 : (List.replicate (1 : Int).toNat a).flatten = a := by
          show a ++ [] = a
          exact List.append_nil a
        rw [e3] at q
        exact .inr (.inr (.inr (.inr ⟨l, vs, e1, rfl, h1, q _ H (.inl (.tup h1 r1)) (.refl H) u⟩)))
    · cases e
  · cases e
/-- upon lists alone: a new list -/
def oAddL : D → D → Option D
  | .list a, .list b => if a.length + b.length ≤ 16777216 then some (.list (a ++ b)) else none
  | _, _ => none
def oMulL : D → D → Option D
  | .list a, .int k => if a.length * k.toNat ≤ 16777216 ∧ -(2 ^ 63) ≤ k ∧ k < 2 ^ 63 then some (.list (List.replicate k.toNat a).flatten) else none
  | _, _ => none
theorem o2_addL : Op2 X .nw (binaryOp .Add) oAddL := by
  refine ⟨_, op_catR, fun ca c He H x y dx dy d Q rx ry e u q => ?_⟩
  unfold oAddL at e
  split at e
  · split at e
    · rename_i a b hz
      cases e
      obtain ⟨l, vs, e1, h1, r1⟩ := rx.list
      obtain ⟨m, ws, e2, h2, r2⟩ := ry.list
      refine ⟨l, m, vs, ws, e1, e2, h1, h2, ?_, fun p hp => ?_⟩
      · rw [r1.len, r2.len, sizeLine_is]; exact hz
      · exact q _ _ (rk_newN hp (r1.app r2) u) (.new hp) (u.new hp)
    · cases e
  · cases e
theorem o2_mulL : Op2 X .nw (binaryOp .Mult) oMulL := by
  refine ⟨_, op_repR, fun ca c He H x y dx dy d Q rx ry e u q => ?_⟩
  unfold oMulL at e
  split at e
  · split at e
    · rename_i a b hz
      cases e
      obtain ⟨l, vs, e1, h1, r1⟩ := rx.list
      cases ry.int
      refine ⟨l, b, vs, e1, rfl, h1, hz.2.1, hz.2.2, ?_, fun p hp => ?_⟩
      · rw [r1.len, sizeLine_is]; exact hz.1
      · exact q _ _ (rk_newN hp (r1.rep _) u) (.new hp) (u.new hp)
    · cases e
  · cases e
theorem o2_div : Op2 X .sh (binaryOp .FloorDiv) oDiv := by
  refine ⟨_, op_fdiv, fun ca c He H x y dx dy d Q rx ry e u q => ?_⟩
  unfold oDiv at e
  split at e
  · split at e
    · rename_i hz
      cases e
      cases rx.int
      cases ry.int
      exact ⟨_, _, rfl, rfl, hz, q _ H (.int _) (.refl H) u⟩
    · cases e
  · cases e
theorem o2_mod : Op2 X .sh (binaryOp .Mod) oMod := by
  refine ⟨_, op_mod, fun ca c He H x y dx dy d Q rx ry e u q => ?_⟩
  unfold oMod at e
  split at e
  · split at e
    · rename_i hz
      cases e
      cases rx.int
      cases ry.int
      exact ⟨_, _, rfl, rfl, hz, q _ H (.int _) (.refl H) u⟩
    · cases e
  · cases e
theorem o2_pow : Op2 X .sh (binaryOp .Pow) oPow := by
  refine ⟨_, op_pow, fun ca c He H x y dx dy d Q rx ry e u q => ?_⟩
  unfold oPow at e
  split at e
  · split at e
    · rename_i hz
      cases e
      cases rx.int
      cases ry.int
      exact ⟨_, _, rfl, rfl, hz, q _ H (.int _) (.refl H) u⟩
    · cases e
  · cases e
/-! ### comparisons -/
def oEq (x y : D) : Option D := if min x.depth y.depth ≤ 64 then some (.bool (PyData.eqv x y)) else none
def oNe (x y : D) : Option D := if min x.depth y.depth ≤ 64 then some (.bool (!PyData.eqv x y)) else none
def okCmp (d e : D) : Bool := PySem.W.alike d e && (match d with | .none => false | _ => true) && decide (min d.depth e.depth ≤ 60)
def oLt : D → D → Option D
  | .int a, .int b => some (.bool (decide (a < b)))
  | .str a, .str b => some (.bool (decide (cl a < cl b)))
  | .tuple a, .tuple b => if okCmp (.tuple a) (.tuple b) = true then some (.bool (PySem.W.dataLt (.tuple a) (.tuple b))) else none
  | _, _ => none
def oLe : D → D → Option D
  | .int a, .int b => some (.bool (decide (a ≤ b)))
  | .str a, .str b => some (.bool (!decide (cl b < cl a)))
  | .tuple a, .tuple b => if okCmp (.tuple a) (.tuple b) = true then some (.bool (!PySem.W.dataLt (.tuple b) (.tuple a))) else none
  | _, _ => none
def oGt : D → D → Option D
  | .int a, .int b => some (.bool (decide (b < a)))
  | _, _ => none
def oGe : D → D → Option D
  | .int a, .int b => some (.bool (decide (b ≤ a)))
  | _, _ => none
def isIn : D → D → Option Bool
  | .str a, .str b => match cl a with
    | [n] => some (decide (n ∈ cl b))
    | _ => none
  | d, .list ds => if min (PyData.depthAll ds) d.depth ≤ 64 then some (ds.any fun y => PyData.eqv y d) else none
  | d, .tuple ds => if min (PyData.depthAll ds) d.depth ≤ 64 then some (ds.any fun y => PyData.eqv y d) else none
  | _, _ => none
def oIn (x y : D) : Option D := (isIn x y).map .bool
def oNotIn (x y : D) : Option D := (isIn x y).map fun b => .bool (!b)
def oIs : D → D → Option D
  | .none, .none => some (.bool true)
  | _, .none => some (.bool false)
  | .bool a, .bool b => some (.bool (decide (a = b)))
  | _, _ => none
def oIsNot (x y : D) : Option D := match oIs x y with
  | some (.bool b) => some (.bool (!b))
  | _ => none
theorem op_eqM (hu : X.A.units + 64 < cLine) : OpR X (compareOp .Eq) (fun x y H Q => ∃ d e, Dp X.K H x d ∧ Dp X.K H y e ∧ d.canLay0 = true ∧ e.canLay0 = true ∧ min d.depth e.depth ≤ 64 ∧ Q (.bl (PyData.eqv d e)) H) := by
  intro pins s σ H x y v u Q I rx ry h
  obtain ⟨d, e, hd, he, sd, se, hm, q⟩ := h
  obtain ⟨as, r1⟩ := Dp.reads I d x v hd rx
  obtain ⟨bs, r2⟩ := Dp.reads I e y u he ry
  exact SeqAt.compareEq_reads r1 r2 sd se (by omega) ⟨.bl _, H, I, rfl, q⟩
theorem op_neM (hu : X.A.units + 64 < cLine) : OpR X (compareOp .NotEq) (fun x y H Q => ∃ d e, Dp X.K H x d ∧ Dp X.K H y e ∧ d.canLay0 = true ∧ e.canLay0 = true ∧ min d.depth e.depth ≤ 64 ∧ Q (.bl (!PyData.eqv d e)) H) := by
  intro pins s σ H x y v u Q I rx ry h
  obtain ⟨d, e, hd, he, sd, se, hm, q⟩ := h
  obtain ⟨as, r1⟩ := Dp.reads I d x v hd rx
  obtain ⟨bs, r2⟩ := Dp.reads I e y u he ry
  exact SeqAt.compareNe_reads r1 r2 sd se (by omega) ⟨.bl _, H, I, rfl, q⟩
theorem op_isB : OpR X (compareOp .Is) (fun x y H Q => ∃ b, y = .bl b ∧ Q (.bl (decide (x = .bl b))) H) := by
  intro pins s σ H x y v u Q I rx ry h
  obtain ⟨b, rfl, q⟩ := h
  cases ry
  have fin : ∀ k : Bool, k = decide (x = .bl b) → EP X pins σ Q (.bool k) s := fun k e => ⟨.bl k, H, I, rfl, by rw [e]; exact q⟩
  cases x with
  | non => cases rx; exact wpAny_pure (fin _ (by simp))
  | bl c => cases rx; exact wpAny_pure (fin _ (by cases b <;> cases c <;> decide))
  | int _ => obtain ⟨t, rfl⟩ := rx; exact wpAny_pure (fin _ (by simp))
  | str _ => obtain ⟨t, rfl⟩ := rx; exact wpAny_pure (fin _ (by simp))
  | byt _ => obtain ⟨t, rfl⟩ := rx; exact wpAny_pure (fin _ (by simp))
  | flt _ => obtain ⟨t, rfl⟩ := rx; exact wpAny_pure (fin _ (by simp))
  | ref _ => cases rx; exact wpAny_pure (fin _ (by simp))
  | ty _ => cases rx; exact wpAny_pure (fin _ (by simp))
theorem op_isNotB : OpR X (compareOp .IsNot) (fun x y H Q => ∃ b, y = .bl b ∧ Q (.bl (!decide (x = .bl b))) H) := by
  intro pins s σ H x y v u Q I rx ry h
  obtain ⟨b, rfl, q⟩ := h
  cases ry
  have fin : ∀ k : Bool, k = (!decide (x = .bl b)) → EP X pins σ Q (.bool k) s := fun k e => ⟨.bl k, H, I, rfl, by rw [e]; exact q⟩
  cases x with
  | non => cases rx; exact wpAny_pure (fin _ (by simp))
  | bl c => cases rx; exact wpAny_pure (fin _ (by cases b <;> cases c <;> decide))
  | int _ => obtain ⟨t, rfl⟩ := rx; exact wpAny_pure (fin _ (by simp))
  | str _ => obtain ⟨t, rfl⟩ := rx; exact wpAny_pure (fin _ (by simp))
  | byt _ => obtain ⟨t, rfl⟩ := rx; exact wpAny_pure (fin _ (by simp))
  | flt _ => obtain ⟨t, rfl⟩ := rx; exact wpAny_pure (fin _ (by simp))
  | ref _ => cases rx; exact wpAny_pure (fin _ (by simp))
  | ty _ => cases rx; exact wpAny_pure (fin _ (by simp))
theorem o2_eq (hu : X.A.units + 64 < cLine) : Op2 X .sh (compareOp .Eq) oEq := by
  refine ⟨_, op_eqM hu, fun ca c He H x y dx dy d Q rx ry e u q => ?_⟩
  unfold oEq at e
  split at e
  · rename_i hz
    cases e
    exact ⟨dx, dy, rx.dp, ry.dp, rx.lay, ry.lay, hz, q _ H (.bl _) (.refl H) u⟩
  · cases e
theorem o2_ne (hu : X.A.units + 64 < cLine) : Op2 X .sh (compareOp .NotEq) oNe := by
  refine ⟨_, op_neM hu, fun ca c He H x y dx dy d Q rx ry e u q => ?_⟩
  unfold oNe at e
  split at e
  · rename_i hz
    cases e
    exact ⟨dx, dy, rx.dp, ry.dp, rx.lay, ry.lay, hz, q _ H (.bl _) (.refl H) u⟩
  · cases e
theorem okCmp_spec {d e : D} (h : okCmp d e = true) : PySem.W.alike d e = true ∧ d ≠ .none ∧ min d.depth e.depth ≤ 60 := by
  unfold okCmp at h
  rw [Bool.and_eq_true, Bool.and_eq_true] at h
  refine ⟨h.1.1, fun e => ?_, of_decide_eq_true h.2⟩
  subst e
  exact Bool.false_ne_true h.1.2
theorem op_ltA (hu : X.A.units + 64 < cLine) : OpR X (compareOp .Lt) (fun x y H Q => ∃ d e, Dp X.K H x d ∧ Dp X.K H y e ∧ okCmp d e = true ∧ Q (.bl (PySem.W.dataLt d e)) H) := by
  intro pins s σ H x y v u Q I rx ry h
  obtain ⟨d, e, hd, he, ok, q⟩ := h
  obtain ⟨h1, h2, h3⟩ := okCmp_spec ok
  obtain ⟨as, r1⟩ := Dp.reads I d x v hd rx
  obtain ⟨bs, r2⟩ := Dp.reads I e y u he ry
  exact PySem.W.lt_data r1 r2 h1 h2 (by omega) ⟨.bl _, H, I, rfl, q⟩
theorem op_leA (hu : X.A.units + 64 < cLine) : OpR X (compareOp .LtE) (fun x y H Q => ∃ d e, Dp X.K H x d ∧ Dp X.K H y e ∧ okCmp d e = true ∧ Q (.bl (!PySem.W.dataLt e d)) H) := by
  intro pins s σ H x y v u Q I rx ry h
  obtain ⟨d, e, hd, he, ok, q⟩ := h
  obtain ⟨h1, h2, h3⟩ := okCmp_spec ok
  obtain ⟨as, r1⟩ := Dp.reads I d x v hd rx
  obtain ⟨bs, r2⟩ := Dp.reads I e y u he ry
  exact PySem.W.le_data r1 r2 h1 h2 (by omega) ⟨.bl _, H, I, rfl, q⟩
theorem o2_lt (hu : X.A.units + 64 < cLine) : Op2 X .sh (compareOp .Lt) oLt := by
  refine ⟨_, OpR.or op_lt (OpR.or op_lt_str (op_ltA hu)), fun ca c He H x y dx dy d Q rx ry e u q => ?_⟩
  unfold oLt at e
  split at e
  · cases e
    cases rx.int
    cases ry.int
    exact .inl ⟨_, _, rfl, rfl, q _ H (.bl _) (.refl H) u⟩
  · cases e
    exact .inr (.inl ⟨_, _, rx.str.1, ry.str.1, q _ H (.bl _) (.refl H) u⟩)
  · split at e
    · rename_i hok
      cases e
      exact .inr (.inr ⟨_, _, rx.dp, ry.dp, hok, q _ H (.bl _) (.refl H) u⟩)
    · cases e
  · cases e
theorem o2_le (hu : X.A.units + 64 < cLine) : Op2 X .sh (compareOp .LtE) oLe := by
  refine ⟨_, OpR.or op_le (OpR.or op_le_str (op_leA hu)), fun ca c He H x y dx dy d Q rx ry e u q => ?_⟩
  unfold oLe at e
  split at e
  · cases e
    cases rx.int
    cases ry.int
    exact .inl ⟨_, _, rfl, rfl, q _ H (.bl _) (.refl H) u⟩
  · cases e
    exact .inr (.inl ⟨_, _, rx.str.1, ry.str.1, q _ H (.bl _) (.refl H) u⟩)
  · split at e
    · rename_i hok
      cases e
      exact .inr (.inr ⟨_, _, rx.dp, ry.dp, hok, q _ H (.bl _) (.refl H) u⟩)
    · cases e
  · cases e
theorem o2_gt : Op2 X .sh (compareOp .Gt) oGt := by
  refine ⟨_, op_gt, fun ca c He H x y dx dy d Q rx ry e u q => ?_⟩
  unfold oGt at e
  split at e
  · cases e
    cases rx.int
    cases ry.int
    exact ⟨_, _, rfl, rfl, q _ H (.bl _) (.refl H) u⟩
  · cases e
theorem o2_ge : Op2 X .sh (compareOp .GtE) oGe := by
  refine ⟨_, op_ge, fun ca c He H x y dx dy d Q rx ry e u q => ?_⟩
  unfold oGe at e
  split at e
  · cases e
    cases rx.int
    cases ry.int
    exact ⟨_, _, rfl, rfl, q _ H (.bl _) (.refl H) u⟩
  · cases e
theorem op_inM (neg : Bool) (hu : X.A.units + 65 < cLine) : OpR X (compareOp (if neg then .NotIn else .In)) (fun x y H Q => ∃ d e ds, Dp X.K H x d ∧ Dp X.K H y e ∧ d.canLay0 = true ∧ e.canLay0 = true ∧ (e = .list ds ∨ e = .tuple ds) ∧ min (PyData.depthAll ds) d.depth ≤ 64 ∧ Q (.bl (neg ^^ ds.any fun y => PyData.eqv y d)) H) := by
  intro pins s σ H x y v u Q I rx ry h
  obtain ⟨d, e, ds, hd, he, sd, se, hm, hz, q⟩ := h
  obtain ⟨as, r1⟩ := Dp.reads I d x v hd rx
  obtain ⟨bs, r2⟩ := Dp.reads I e y u he ry
  cases neg with
  | false =>
    rw [Bool.false_xor] at q
    rcases hm with rfl | rfl
    · exact SeqAt.in_list_reads r2 r1 se sd (by omega) ⟨.bl _, H, I, rfl, q⟩
    · exact SeqAt.in_tuple_reads r2 r1 se sd (by omega) ⟨.bl _, H, I, rfl, q⟩
  | true =>
    rw [Bool.true_xor] at q
    rcases hm with rfl | rfl
    · exact SeqAt.notIn_list_reads r2 r1 se sd (by omega) ⟨.bl _, H, I, rfl, q⟩
    · exact SeqAt.notIn_tuple_reads r2 r1 se sd (by omega) ⟨.bl _, H, I, rfl, q⟩
theorem sign_of {x : Str} {n : Nat} (h : cl x = [n]) : x = ⟨#[n]⟩ := by rw [← cl_ps x, h]
theorem isIn_cases {x y : D} {b : Bool} (h : isIn x y = some b) : (∃ s t n, x = .str s ∧ y = .str t ∧ cl s = [n] ∧ b = decide (n ∈ cl t)) ∨ ∃ ds, (y = .list ds ∨ y = .tuple ds) ∧ min (PyData.depthAll ds) x.depth ≤ 64 ∧ b = ds.any fun y => PyData.eqv y x := by
  unfold isIn at h
  split at h
  · split at h
    · rename_i hn
      cases h
      exact .inl ⟨_, _, _, rfl, rfl, hn, rfl⟩
    · cases h
  · split at h
    · rename_i hz
      cases h
      exact .inr ⟨_, .inl rfl, hz, rfl⟩
    · cases h
  · split at h
    · rename_i hz
      cases h
      exact .inr ⟨_, .inr rfl, hz, rfl⟩
    · cases h
  · cases h
theorem o2_in (hu : X.A.units + 65 < cLine) : Op2 X .sh (compareOp .In) oIn := by
  refine ⟨_, OpR.or op_in_sign (op_inM false hu), fun ca c He H x y dx dy d Q rx ry e u q => ?_⟩
  unfold oIn at e
  cases h : isIn dx dy with
  | none => rw [h] at e; cases e
  | some b =>
    rw [h] at e
    cases e
    rcases isIn_cases h with ⟨s, t, n, rfl, rfl, hn, rfl⟩ | ⟨ds, hl, hz, rfl⟩
    · refine .inl ⟨n, t, ?_, ry.str.1, q _ H (.bl _) (.refl H) u⟩
      rw [rx.str.1, sign_of hn]
    · refine .inr ⟨dx, dy, ds, rx.dp, ry.dp, rx.lay, ry.lay, hl, hz, ?_⟩
      rw [Bool.false_xor]
      exact q _ H (.bl _) (.refl H) u
theorem o2_notIn (hu : X.A.units + 65 < cLine) : Op2 X .sh (compareOp .NotIn) oNotIn := by
  refine ⟨_, OpR.or op_notIn_sign (op_inM true hu), fun ca c He H x y dx dy d Q rx ry e u q => ?_⟩
  unfold oNotIn at e
  cases h : isIn dx dy with
  | none => rw [h] at e; cases e
  | some b =>
    rw [h] at e
    cases e
    rcases isIn_cases h with ⟨s, t, n, rfl, rfl, hn, rfl⟩ | ⟨ds, hl, hz, rfl⟩
    · refine .inl ⟨n, t, ?_, ry.str.1, q _ H (.bl _) (.refl H) u⟩
      rw [rx.str.1, sign_of hn]
    · refine .inr ⟨dx, dy, ds, rx.dp, ry.dp, rx.lay, ry.lay, hl, hz, ?_⟩
      rw [Bool.true_xor]
      exact q _ H (.bl _) (.refl H) u
theorem Rb.non_iff {K : PySem.W.Frag} {ca : Addr} {H : Hp} {v : V} {d : D} (r : Rb K ca H v d) : v = .non ↔ d = .none := by
  rcases r with r | ⟨a, ds, vs, rfl, rfl, _⟩
  · cases r <;> simp
  · simp
def isNon : D → Bool
  | .none => true
  | _ => false
theorem is_cases {x y d : D} (h : oIs x y = some d) : (y = .none ∧ d = .bool (isNon x)) ∨ ∃ a b, x = .bool a ∧ y = .bool b ∧ d = .bool (decide (a = b)) := by
  unfold oIs at h
  split at h
  · cases h; exact .inl ⟨rfl, rfl⟩
  · rename_i hn
    cases h
    refine .inl ⟨rfl, ?_⟩
    cases x <;> first | rfl | exact absurd rfl hn
  · cases h; exact .inr ⟨_, _, rfl, rfl, rfl⟩
  · cases h
theorem o2_is : Op2 X .sh (compareOp .Is) oIs := by
  refine ⟨_, OpR.or op_isN op_isB, fun ca c He H x y dx dy d Q rx ry e u q => ?_⟩
  rcases is_cases e with ⟨rfl, rfl⟩ | ⟨a, b, rfl, rfl, rfl⟩
  · refine .inl ⟨ry.non, ?_⟩
    have e2 : decide (x = V.non) = isNon dx := by
      have h := rx.non_iff
      cases dx <;> simp [h, isNon]
    rw [e2]
    exact q _ H (.bl _) (.refl H) u
  · refine .inr ⟨b, ry.bl, ?_⟩
    have e2 : decide (x = V.bl b) = decide (a = b) := by
      rw [rx.bl]
      by_cases h : a = b
      · simp [h]
      · simp [h]
    rw [e2]
    exact q _ H (.bl _) (.refl H) u
theorem o2_isNot : Op2 X .sh (compareOp .IsNot) oIsNot := by
  refine ⟨_, OpR.or op_notN op_isNotB, fun ca c He H x y dx dy d Q rx ry e u q => ?_⟩
  unfold oIsNot at e
  split at e
  · rename_i k hk
    cases e
    rcases is_cases hk with ⟨rfl, e1⟩ | ⟨a, b, rfl, rfl, e1⟩
    · cases e1
      refine .inl ⟨ry.non, ?_⟩
      have e2 : decide (x = V.non) = isNon dx := by
        have h := rx.non_iff
        cases dx <;> simp [h, isNon]
      rw [e2]
      exact q _ H (.bl _) (.refl H) u
    · cases e1
      refine .inr ⟨b, ry.bl, ?_⟩
      have e2 : decide (x = V.bl b) = decide (a = b) := by
        rw [rx.bl]
        by_cases h : a = b
        · simp [h]
        · simp [h]
      rw [e2]
      exact q _ H (.bl _) (.refl H) u
  · cases e
end
end Wk
set_option Elab.async false
set_option linter.all false
set_option maxRecDepth 100000
set_option maxHeartbeats 4000000
namespace Wk
open PySem PySem.Spec PyProof.Rows L2
/-! ### tests -/
abbrev STst := Ev → Cup → Option (Bool × Cup)
def TTd (K : PySem.W.Frag) (z : Zs) (f : STst) : TT := fun σ H Q => ∃ ca He Γ c b c', Rel K z ca He Γ c σ H ∧ f Γ c = some (b, c') ∧ ∀ H', Sm ca H H' → CupAt ca c' H' → Q b H'
structure PTd (X : Cx) (z : Zs) (e : Expr) (f : STst) : Prop where
  pt : PT X e (TTd X.K z f)
structure PWd (X : Cx) (z : Zs) (e : Expr) (f : STst) : Prop where
  pw : PW X e (TTd X.K z f)
/-- the bool that a value is -/
def sB (f : SE) : STst := fun Γ c => (f Γ c).bind fun p => match p.1 with
  | .bool b => some (b, p.2)
  | _ => none
theorem sB_some {f : SE} {Γ : Ev} {c c' : Cup} {b : Bool} (h : sB f Γ c = some (b, c')) : f Γ c = some (.bool b, c') := by
  unfold sB at h
  cases q : f Γ c with
  | none => rw [q] at h; cases h
  | some p =>
    obtain ⟨d, c1⟩ := p
    rw [q] at h
    cases d <;> first
      | (cases h; rfl)
      | cases h
def sAnd (f g : STst) : STst := fun Γ c => (f Γ c).bind fun p => if p.1 then g Γ p.2 else some (false, p.2)
def sOr (f g : STst) : STst := fun Γ c => (f Γ c).bind fun p => if p.1 then some (true, p.2) else g Γ p.2
def sNot (f : STst) : STst := fun Γ c => (f Γ c).map fun p => (!p.1, p.2)
def sAndV (f g : SE) : SE := fun Γ c => (sB f Γ c).bind fun p => if p.1 then g Γ p.2 else some (.bool false, p.2)
def sOrV (f g : SE) : SE := fun Γ c => (sB f Γ c).bind fun p => if p.1 then some (.bool true, p.2) else g Γ p.2
def sNotV (f : SE) : SE := fun Γ c => (sB f Γ c).map fun p => (.bool (!p.1), p.2)
def sIf (t : STst) (f g : SE) : SE := fun Γ c => (t Γ c).bind fun p => if p.1 then f Γ p.2 else g Γ p.2
theorem bind_some' {α β : Type} {o : Option α} {k : α → Option β} {b : β} (h : o.bind k = some b) : ∃ a, o = some a ∧ k a = some b := Option.bind_eq_some_iff.mp h
section
variable {X : Cx} {z : Zs} {a b e c : Expr} {k k' : Kd} {f fa fb : SE} {t u : STst} {pos : Pos} {rest : List Expr}
theorem ptd_v (h : PD X z e k f) (he : ∀ whole, isTrue e X.env whole = (do let v ← whole; standAt e.pos; holding [v] (truthy v)) := by intro _; rfl) : PTd X z e (sB f) :=
  ⟨pt_imp (pt_val h.pe he) fun σ H Q ⟨ca, He, Γ, c, b, c', r, e, q⟩ => ⟨ca, He, Γ, c, _, c', r, sB_some e, fun v H' rk s u => ⟨b, (rk.rb r.hca r.cup).bl, q H' s u⟩⟩⟩
theorem ptd_cmp {op : CmpOp} {g : D → D → Option D} {kk : Kd} (ho : Op2 X kk (compareOp op) g) (ha : PD X z a k fa) (hb : PD X z b k' fb) (hm : behindInMarks op b = false := by rfl) : PTd X z (.Compare a [op] [b] pos) (sB (sOp g fa fb)) := by
  obtain ⟨r, h1, h2⟩ := ho
  refine ⟨pt_imp (pt_cmpR h1 ha.pe hb.pe hm) fun σ H Q ⟨ca, He, Γ, c, b, c', rl, e, q⟩ => ?_⟩
  exact tOp_of h2 σ H _ ⟨ca, He, Γ, c, _, c', rl, sB_some e, fun v H' rk s u => ⟨b, (rk.rb rl.hca rl.cup).bl, q H' s u⟩⟩
theorem ptd_not (h : PTd X z a t) : PTd X z (.UnaryOp .Not a pos) (sNot t) :=
  ⟨pt_imp (pt_not h.pt) fun σ H Q ⟨ca, He, Γ, c, b, c', r, e, q⟩ => by
    unfold sNot at e
    obtain ⟨⟨b1, c1⟩, e1, e2⟩ := Option.map_eq_some_iff.mp e
    cases e2
    exact ⟨ca, He, Γ, c, b1, c1, r, e1, fun H' s u => q H' s u⟩⟩
theorem pwd_and1 (h : PTd X z a t) : PWd X z (.BoolOp .And [a] pos) t := ⟨pw_and1 h.pt⟩
theorem pwd_or1 (h : PTd X z a t) : PWd X z (.BoolOp .Or [a] pos) t := ⟨pw_or1 h.pt⟩
theorem pwd_and (ha : PTd X z a t) (hb : PWd X z (.BoolOp .And (b :: rest) pos) u) : PWd X z (.BoolOp .And (a :: b :: rest) pos) (sAnd t u) :=
  ⟨pw_imp (pw_and ha.pt hb.pw) fun σ H Q ⟨ca, He, Γ, c, b, c', r, e, q⟩ => by
    obtain ⟨⟨b1, c1⟩, e1, e2⟩ := bind_some' e
    refine ⟨ca, He, Γ, c, b1, c1, r, e1, fun H1 s1 u1 => ?_⟩
    cases b1 with
    | true => exact ⟨ca, He, Γ, c1, b, c', r.mono s1 u1, e2, fun H2 s2 u2 => q H2 (s1.trans s2) u2⟩
    | false => cases e2; exact q H1 s1 u1⟩
theorem pwd_or (ha : PTd X z a t) (hb : PWd X z (.BoolOp .Or (b :: rest) pos) u) : PWd X z (.BoolOp .Or (a :: b :: rest) pos) (sOr t u) :=
  ⟨pw_imp (pw_or ha.pt hb.pw) fun σ H Q ⟨ca, He, Γ, c, b, c', r, e, q⟩ => by
    obtain ⟨⟨b1, c1⟩, e1, e2⟩ := bind_some' e
    refine ⟨ca, He, Γ, c, b1, c1, r, e1, fun H1 s1 u1 => ?_⟩
    cases b1 with
    | false => exact ⟨ca, He, Γ, c1, b, c', r.mono s1 u1, e2, fun H2 s2 u2 => q H2 (s1.trans s2) u2⟩
    | true => cases e2; exact q H1 s1 u1⟩
theorem ptd_w (h : PWd X z e t) : PTd X z e t := ⟨h.pw.pt⟩
/-- and, or, not as values -/
theorem pd_one {op} (h : PD X z a .sh f) : PD X z (.BoolOp op [a] pos) .sh f := ⟨pe_one h.pe⟩
theorem pd_and (ha : PD X z a .sh fa) (hb : PD X z (.BoolOp .And (b :: rest) pos) .sh fb) : PD X z (.BoolOp .And (a :: b :: rest) pos) .sh (sAndV fa fb) :=
  ⟨pe_imp (pe_and ha.pe hb.pe) fun σ H Q ⟨ca, He, Γ, c, d, c', r, e, q⟩ => by
    obtain ⟨⟨b1, c1⟩, e1, e2⟩ := bind_some' e
    refine ⟨ca, He, Γ, c, _, c1, r, sB_some e1, fun x H1 rx s1 u1 => ?_⟩
    refine ⟨b1, Rb.bl (ca := ca) (.inl rx), ?_⟩
    cases b1 with
    | true => exact ⟨ca, He, Γ, c1, d, c', r.mono s1 u1, e2, fun y H2 ry s2 u2 => q y H2 ry (s1.trans s2) u2⟩
    | false => cases e2; exact q _ H1 (.bl _) s1 u1⟩
theorem pd_or (ha : PD X z a .sh fa) (hb : PD X z (.BoolOp .Or (b :: rest) pos) .sh fb) : PD X z (.BoolOp .Or (a :: b :: rest) pos) .sh (sOrV fa fb) :=
  ⟨pe_imp (pe_or ha.pe hb.pe) fun σ H Q ⟨ca, He, Γ, c, d, c', r, e, q⟩ => by
    obtain ⟨⟨b1, c1⟩, e1, e2⟩ := bind_some' e
    refine ⟨ca, He, Γ, c, _, c1, r, sB_some e1, fun x H1 rx s1 u1 => ?_⟩
    refine ⟨b1, Rb.bl (ca := ca) (.inl rx), ?_⟩
    cases b1 with
    | false => exact ⟨ca, He, Γ, c1, d, c', r.mono s1 u1, e2, fun y H2 ry s2 u2 => q y H2 ry (s1.trans s2) u2⟩
    | true => cases e2; exact q _ H1 (.bl _) s1 u1⟩
theorem pd_not (ha : PD X z a .sh fa) : PD X z (.UnaryOp .Not a pos) .sh (sNotV fa) :=
  ⟨pe_imp (pe_not ha.pe) fun σ H Q ⟨ca, He, Γ, c, d, c', r, e, q⟩ => by
    obtain ⟨⟨b1, c1⟩, e1, e2⟩ := Option.map_eq_some_iff.mp e
    cases e2
    exact ⟨ca, He, Γ, c, _, c1, r, sB_some e1, fun x H1 rx s1 u1 => ⟨b1, Rb.bl (ca := ca) (.inl rx), q _ H1 (.bl _) s1 u1⟩⟩⟩
theorem pd_ife (hc : PTd X z c t) (ha : PD X z a k fa) (hb : PD X z b k fb) : PD X z (.IfExp c a b pos) k (sIf t fa fb) :=
  ⟨pe_imp (pe_ifExp hc.pt ha.pe hb.pe) fun σ H Q ⟨ca, He, Γ, c, d, c', r, e, q⟩ => by
    obtain ⟨⟨b1, c1⟩, e1, e2⟩ := bind_some' e
    refine ⟨ca, He, Γ, c, b1, c1, r, e1, fun H1 s1 u1 => ?_⟩
    cases b1 with
    | true => exact ⟨ca, He, Γ, c1, d, c', r.mono s1 u1, e2, fun y H2 ry s2 u2 => q y H2 (ry.step s1 u1) (s1.trans s2) u2⟩
    | false => exact ⟨ca, He, Γ, c1, d, c', r.mono s1 u1, e2, fun y H2 ry s2 u2 => q y H2 (ry.step s1 u1) (s1.trans s2) u2⟩⟩
/-! ### -x -/
def sNeg (f : SE) : SE := fun Γ c => (f Γ c).bind fun p => match p.1 with
  | .int i => some (.int (-i), p.2)
  | _ => none
theorem pd_neg (ha : PD X z a .sh fa) : PD X z (.UnaryOp .USub a pos) .sh (sNeg fa) :=
  ⟨pe_imp (pe_un un_neg ha.pe) fun σ H Q ⟨ca, He, Γ, c, d, c', r, e, q⟩ => by
    obtain ⟨⟨d1, c1⟩, e1, e2⟩ := bind_some' e
    cases d1 <;> first
      | (cases e2; exact ⟨ca, He, Γ, c, _, _, r, e1, fun x H1 rx s1 u1 => ⟨_, Rb.int (ca := ca) (.inl rx), q _ H1 (.int _) s1 u1⟩⟩)
      | cases e2⟩
/-! ### a op b op c -/
def sChain (g g' : D → D → Option D) (fa fb fc : SE) : SE := fun Γ c => (fa Γ c).bind fun p => (fb Γ p.2).bind fun q => match g p.1 q.1 with
  | some (.bool true) => (fc Γ q.2).bind fun r => (g' q.1 r.1).map fun d => (d, r.2)
  | some (.bool false) => some (.bool false, q.2)
  | _ => none
theorem tChain_of {K : PySem.W.Frag} {k'' : Kd} {r r' : R2} {g g' : D → D → Option D} {fc : SE}
    (hr : ∀ (ca : Addr) (c : Cup) (He H : Hp) (x y : V) (dx dy d : D) (Q : VK), Rb K ca H x dx → Rb K ca H y dy → g dx dy = some d → CupAt ca c H →
    (∀ v H', RK K .sh He H H' v d → Sm ca H H' → CupAt ca c H' → Q v H') → r x y H Q)
    (hr' : ∀ (ca : Addr) (c : Cup) (He H : Hp) (x y : V) (dx dy d : D) (Q : VK), Rb K ca H x dx → Rb K ca H y dy → g' dx dy = some d → CupAt ca c H →
    (∀ v H', RK K .sh He H H' v d → Sm ca H H' → CupAt ca c H' → Q v H') → r' x y H Q) (σ : L2.St) (H : Hp) (Q : VK) (w : TD K z .sh (sChain g g' fa fb fc) σ H Q) : tChain r r' (TD K z k fa) (TD K z k' fb) (TD K z k'' fc) σ H Q := by
  obtain ⟨ca, He, Γ, c, d, c', rl, e, q⟩ := w
  obtain ⟨⟨dx, c1⟩, e1, e⟩ := bind_some' e
  obtain ⟨⟨dy, c2⟩, e2, e⟩ := bind_some' e
  refine ⟨ca, He, Γ, c, dx, c1, rl, e1, fun x H1 rx s1 u1 => ?_⟩
  refine ⟨ca, He, Γ, c1, dy, c2, rl.mono s1 u1, e2, fun y H2 ry s2 u2 => ?_⟩
  simp only at e
  have rx2 := (rx.rb rl.hca rl.cup).mono s2 u1
  have ry2 := ry.rb rl.hca u1
  split at e
  · rename_i hg
    refine hr ca c2 He H2 x y dx dy _ _ rx2 ry2 hg u2 fun v H3 rv s3 u3 => ⟨true, Rb.bl (ca := ca) (.inl rv), ?_⟩
    rw [if_pos rfl]
    obtain ⟨⟨dz, c3⟩, e3, e⟩ := bind_some' e
    obtain ⟨d', e4, e5⟩ := Option.map_eq_some_iff.mp e
    cases e5
    refine ⟨ca, He, Γ, c2, dz, c3, (rl.mono s1 u1).mono (s2.trans s3) u3, e3, fun w H4 rw' s4 u4 => ?_⟩
    refine hr' ca c3 He H4 y w dy dz _ _ ((ry2.mono s3 u2).mono s4 u3) (rw'.rb rl.hca u3) e4 u4 fun v' H5 rv' s5 u5 => ?_
    exact q v' H5 rv' ((((s1.trans s2).trans s3).trans s4).trans s5) u5
  · rename_i hg
    cases e
    refine hr ca _ He H2 x y dx dy _ _ rx2 ry2 hg u2 fun v H3 rv s3 u3 => ⟨false, Rb.bl (ca := ca) (.inl rv), ?_⟩
    rw [if_neg Bool.false_ne_true]
    exact q _ H3 (.bl _) ((s1.trans s2).trans s3) u3
  · cases e
theorem pd_chain {op op' : CmpOp} {g g' : D → D → Option D} {fc : SE} {k'' : Kd} (ho : Op2 X .sh (compareOp op) g) (ho' : Op2 X .sh (compareOp op') g') (ha : PD X z a k fa) (hb : PD X z b k' fb) (hc : PD X z c k'' fc) (hmm : lastMarks [op, op'] [b, c] = false := by rfl) : PD X z (.Compare a [op, op'] [b, c] pos) .sh (sChain g g' fa fb fc) := by
  obtain ⟨r, h1, h2⟩ := ho
  obtain ⟨r', h1', h2'⟩ := ho'
  exact ⟨pe_imp (pe_chain h1 h1' ha.pe hb.pe hc.pe hmm) (tChain_of h2 h2')⟩
theorem ptd_chain {op op' : CmpOp} {g g' : D → D → Option D} {fc : SE} {k'' : Kd} (ho : Op2 X .sh (compareOp op) g) (ho' : Op2 X .sh (compareOp op') g') (ha : PD X z a k fa) (hb : PD X z b k' fb) (hc : PD X z c k'' fc) (hmm : lastMarks [op, op'] [b, c] = false := by rfl) : PTd X z (.Compare a [op, op'] [b, c] pos) (sB (sChain g g' fa fb fc)) := by
  obtain ⟨r, h1, h2⟩ := ho
  obtain ⟨r', h1', h2'⟩ := ho'
  refine ⟨pt_imp (pt_chain h1 h1' ha.pe hb.pe hc.pe hmm) fun σ H Q ⟨ca, He, Γ, c, b, c', rl, e, q⟩ => ?_⟩
  exact tChain_of h2 h2' σ H _ ⟨ca, He, Γ, c, _, c', rl, sB_some e, fun v H' rk s u => ⟨b, Rb.bl (ca := ca) (.inl rk), q H' s u⟩⟩
/-! ### subscripts, slices -/
def oIx : D → D → Option D
  | .list ds, .int i => atI ds i
  | .tuple ds, .int i => atI ds i
  | .str s, .int i => (atI (cl s) i).map fun n => ps [n]
  | _, _ => none
theorem atI_get {α : Type} {xs : List α} {i : Int} {x : α} (h : atI xs i = some x) : ∃ j, ixN xs.length i = some j ∧ xs[j]? = some x := by
  unfold atI at h
  exact bind_some' h
theorem Rs.atI {K : PySem.W.Frag} {H : Hp} {vs : List V} {ds : List D} {i : Int} {d : D} (r : Rs K H vs ds) (h : L2.atI ds i = some d) : ∃ v, L2.atI vs i = some v ∧ R K H v d := by
  obtain ⟨j, h1, h2⟩ := atI_get h
  obtain ⟨v, e, q⟩ := r.get h2
  refine ⟨v, ?_, q⟩
  unfold L2.atI
  rw [r.len, h1]
  exact e
theorem pd_ix (ha : PD X z a k fa) (hb : PD X z b k' fb) (hs : PlainIx b := by exact fun _ _ => rfl) : PD X z (.Subscript a b pos) .sh (sOp oIx fa fb) := by
  refine ⟨pe_imp (pe_ix (IxR.or ix_list (IxR.or ix_tup ix_str)) ha.pe hb.pe hs) (tOp_of (fun ca c He H x y dx dy d Q rx ry e u q => ?_))⟩
  unfold oIx at e
  split at e
  · obtain ⟨l, vs, e1, h1, r1⟩ := rx.list
    obtain ⟨v, hv, rv⟩ := r1.atI e
    exact .inl ⟨l, vs, _, v, e1, ry.int, .inl h1, hv, q v H rv (.refl H) u⟩
  · obtain ⟨l, vs, e1, h1, r1⟩ := rx.tup
    obtain ⟨v, hv, rv⟩ := r1.atI e
    exact .inr (.inl ⟨l, vs, _, v, e1, ry.int, h1, hv, q v H rv (.refl H) u⟩)
  · obtain ⟨n, h1, h2⟩ := Option.map_eq_some_iff.mp e
    cases h2
    obtain ⟨e1, o1⟩ := rx.str
    refine .inr (.inr ⟨_, _, n, e1, ry.int, by rw [sizeLine_is]; exact okS.le o1, h1, q _ H (.str _ (okS_of (fun m hm => ?_) (by simp))) (.refl H) u⟩)
    have hm' : m = n := by simpa using hm
    subst hm'
    obtain ⟨j, _, h3⟩ := atI_get h1
    exact (okS_in o1).1 m (List.mem_of_getElem? h3)
  · cases e
def cut {α : Type} (xs : List α) (lo hi : Option Int) : List α := (xs.drop (HT.sIx xs.length 0 lo)).take (HT.sIx xs.length xs.length hi - HT.sIx xs.length 0 lo)
theorem cut_le {α : Type} (xs : List α) (lo hi : Option Int) : (cut xs lo hi).length ≤ xs.length := by
  unfold cut
  rw [List.length_take, List.length_drop]
  omega
theorem cut_mem {α : Type} {xs : List α} {lo hi : Option Int} {x : α} (h : x ∈ cut xs lo hi) : x ∈ xs := List.mem_of_mem_drop (List.mem_of_mem_take h)
def oSl : D → Option Int → Option Int → Option D
  | .list ds, lo, hi => some (.list (cut ds lo hi))
  | .tuple ds, lo, hi => some (.tuple (cut ds lo hi))
  | .str s, lo, hi => some (ps (cut (cl s) lo hi))
  | _, _, _ => none
/-- a part of a slice -/
abbrev SO := Ev → Cup → Option (Option Int × Cup)
def TOd (K : PySem.W.Frag) (z : Zs) (f : SO) : TO := fun σ H Q => ∃ ca He Γ c o c', Rel K z ca He Γ c σ H ∧ f Γ c = some (o, c') ∧ ∀ H', Sm ca H H' → CupAt ca c' H' → Q o H'
structure POd (X : Cx) (z : Zs) (e : Option Expr) (f : SO) : Prop where
  po : PO X e (TOd X.K z f)
def sNoP : SO := fun _ c => some (none, c)
def sPart (f : SE) : SO := fun Γ c => (f Γ c).bind fun p => match p.1 with
  | .int i => some (some i, p.2)
  | _ => none
theorem po_imp {e : Option Expr} {t t' : TO} (h : PO X e t) (k : ∀ σ H Q, t' σ H Q → t σ H Q) : PO X e t' := ⟨fun pins s σ H Q I w => h.run pins s σ H Q I (k σ H Q w)⟩
theorem pod_none : POd X z none sNoP := ⟨po_imp po_none fun σ H Q ⟨ca, He, Γ, c, o, c', r, e, q⟩ => by cases e; exact q H (.refl H) r.cup⟩
theorem pod_some (h : PD X z e k f) : POd X z (some e) (sPart f) := ⟨po_imp (po_some h.pe) fun σ H Q ⟨ca, He, Γ, c, o, c', r, e, q⟩ => by
  obtain ⟨⟨d1, c1⟩, e1, e2⟩ := bind_some' e
  cases d1 <;> first
    | (cases e2; exact ⟨ca, He, Γ, c, _, _, r, e1, fun x H1 rx s1 u1 => ⟨_, (rx.rb r.hca r.cup).int, q H1 s1 u1⟩⟩)
    | cases e2⟩
def sSl (f : SE) (l h : SO) : SE := fun Γ c => (f Γ c).bind fun p => (l Γ p.2).bind fun q => (h Γ q.2).bind fun r => (oSl p.1 q.1 r.1).map fun d => (d, r.2)
theorem Rs.cut {K : PySem.W.Frag} {H : Hp} {vs : List V} {ds : List D} (r : Rs K H vs ds) (lo hi : Option Int) : Rs K H (L2.cutV vs lo hi) (Wk.cut ds lo hi) := by
  unfold L2.cutV Wk.cut
  rw [r.len]
  exact (r.drop _).take _
theorem pd_sl {lo hi : Option Expr} {p2 : Pos} {l h : SO} (ha : PD X z a k fa) (hl : POd X z lo l) (hh : POd X z hi h) : PD X z (.Subscript a (.Slice lo hi none p2) pos) .fr (sSl fa l h) := by
  refine ⟨pe_imp (pe_slice (SlR.or sl_str (SlR.or sl_list sl_tupA)) ha.pe hl.po hh.po) fun σ H Q ⟨ca, He, Γ, c, d, c', r, e, q⟩ => ?_⟩
  obtain ⟨⟨dx, c1⟩, e1, e⟩ := bind_some' e
  obtain ⟨⟨l1, c2⟩, e2, e⟩ := bind_some' e
  obtain ⟨⟨h1, c3⟩, e3, e⟩ := bind_some' e
  obtain ⟨d', e4, e5⟩ := Option.map_eq_some_iff.mp e
  cases e5
  refine ⟨ca, He, Γ, c, dx, c1, r, e1, fun x H1 rx s1 u1 => ?_⟩
  refine ⟨ca, He, Γ, c1, l1, c2, r.mono s1 u1, e2, fun H2 s2 u2 => ?_⟩
  refine ⟨ca, He, Γ, c2, h1, c3, (r.mono s1 u1).mono s2 u2, e3, fun H3 s3 u3 => ?_⟩
  have rx3 := ((rx.rb r.hca r.cup).mono s2 u1).mono s3 u2
  have s13 := (s1.trans s2).trans s3
  have fin : ∀ v H', RK X.K .fr He H3 H' v d → Sm ca H3 H' → CupAt ca c3 H' → Q v H' := fun v H' rv s' u' => q v H' (rv.step s13 u3) (s13.trans s') u'
  simp only at e4
  unfold oSl at e4
  split at e4
  · cases e4
    obtain ⟨a, vs, e1, hh1, r1⟩ := rx3.list
    refine .inr (.inl ⟨a, vs, e1, .inl hh1, fun p hp => ?_⟩)
    exact fin _ _ (rk_new hp (r1.cut _ _) u3) (.new hp) (u3.new hp)
  · cases e4
    obtain ⟨a, vs, e1, hh1, r1⟩ := rx3.tup
    refine .inr (.inr ⟨a, vs, e1, hh1, fun hw => ?_, fun _ p hp => ?_⟩)
    · rw [r1.len] at hw
      refine fin _ H3 (.inl ?_) (.refl H3) u3
      have e6 : ∀ ds : List D, HT.sIx ds.length 0 l1 = 0 ∧ HT.sIx ds.length ds.length h1 = ds.length → Wk.cut ds l1 h1 = ds := fun ds hd => by
        unfold Wk.cut
        rw [hd.1, hd.2, List.drop_zero, Nat.sub_zero]
        exact List.take_length
      have hw' := hw
      rw [e6 _ hw']
      exact e1 ▸ R.tup hh1 r1
    · exact fin _ _ (.inl (rk_tup hp (r1.cut _ _) u3)) (.new hp) (u3.new hp)
  · cases e4
    obtain ⟨e1, o1⟩ := rx3.str
    refine .inl ⟨_, e1, by rw [sizeLine_is]; exact okS.le o1, ?_⟩
    unfold cutS
    rw [len_cl]
    refine fin _ H3 (.inl (.str _ (okS_of (fun n hn => (okS_in o1).1 n (cut_mem hn)) ?_))) (.refl H3) u3
    exact Nat.le_trans (cut_le _ _ _) (okS_in o1).2
  · cases e4
/-! ### arguments, displays -/
abbrev SA := Ev → Cup → Option (List D × Cup)
def TAd (K : PySem.W.Frag) (z : Zs) (f : SA) : TA := fun σ H Q => ∃ ca He Γ c ds c', Rel K z ca He Γ c σ H ∧ f Γ c = some (ds, c') ∧ ∀ vs H', Rs K H' vs ds → Sm ca H H' → CupAt ca c' H' → Q vs H'
structure PAd (X : Cx) (z : Zs) (es : List Expr) (f : SA) : Prop where
  pa : PA X es (TAd X.K z f)
def sNil : SA := fun _ c => some ([], c)
def sCons (f : SE) (g : SA) : SA := fun Γ c => (f Γ c).bind fun p => (g Γ p.2).map fun q => (p.1 :: q.1, q.2)
theorem pad_nil : PAd X z [] sNil := ⟨pa_imp pa_nil fun σ H Q ⟨ca, He, Γ, c, ds, c', r, e, q⟩ => by cases e; exact q _ H .nil (.refl H) r.cup⟩
theorem pad_cons {es : List Expr} {g : SA} (ha : PD X z e .sh f) (hr : PAd X z es g) (hs : starEach (e :: es) X.env = (false, eval e X.env) :: starEach es X.env := by rfl) : PAd X z (e :: es) (sCons f g) :=
  ⟨pa_imp (pa_cons ha.pe hr.pa hs) fun σ H Q ⟨ca, He, Γ, c, ds, c', r, e, q⟩ => by
    obtain ⟨⟨d1, c1⟩, e1, e⟩ := bind_some' e
    obtain ⟨⟨d2, c2⟩, e2, e3⟩ := Option.map_eq_some_iff.mp e
    cases e3
    refine ⟨ca, He, Γ, c, d1, c1, r, e1, fun x H1 rx s1 u1 => ?_⟩
    refine ⟨ca, He, Γ, c1, d2, _, r.mono s1 u1, e2, fun xs H2 rs s2 u2 => ?_⟩
    exact q _ H2 (.cons (R.mono (s2.fz u1) rx) rs) (s1.trans s2) u2⟩
/-- a number of arguments -/
def ALen (f : SA) (n : Nat) : Prop := ∀ Γ c ds c', f Γ c = some (ds, c') → ds.length = n
theorem alen_nil : ALen sNil 0 := fun _ _ _ _ h => by cases h; rfl
theorem alen_cons {g : SA} {n : Nat} (h : ALen g n) : ALen (sCons f g) (n + 1) := fun Γ c ds c' e => by
  obtain ⟨⟨d1, c1⟩, e1, e⟩ := bind_some' e
  obtain ⟨⟨d2, c2⟩, e2, e3⟩ := Option.map_eq_some_iff.mp e
  cases e3
  exact congrArg (· + 1) (h _ _ _ _ e2)
def sTup (g : SA) : SE := fun Γ c => (g Γ c).bind fun p => if p.1.length ≤ 16777216 then some (.tuple p.1, p.2) else none
def sLst (g : SA) : SE := fun Γ c => (g Γ c).bind fun p => if p.1.length ≤ 16777216 then some (.list p.1, p.2) else none
theorem pd_tup {es : List Expr} {g : SA} {x1} (h : PAd X z es g) : PD X z (.Tuple es x1 pos) .sh (sTup g) :=
  ⟨pe_imp (pe_tup h.pa) fun σ H Q ⟨ca, He, Γ, c, d, c', r, e, q⟩ => by
    obtain ⟨⟨ds, c1⟩, e1, e⟩ := bind_some' e
    simp only at e
    split at e
    · rename_i hz
      cases e
      exact ⟨ca, He, Γ, c, ds, c', r, e1, fun xs H1 rs s1 u1 => ⟨by rw [rs.len, sizeLine_is]; exact hz, fun p hp => q _ _ (rk_tup hp rs u1) (s1.trans (.new hp)) (u1.new hp)⟩⟩
    · cases e⟩
theorem pd_lst {es : List Expr} {g : SA} (h : PAd X z es g) : PD X z (.List es pos) .nw (sLst g) :=
  ⟨pe_imp (pe_lst h.pa) fun σ H Q ⟨ca, He, Γ, c, d, c', r, e, q⟩ => by
    obtain ⟨⟨ds, c1⟩, e1, e⟩ := bind_some' e
    simp only at e
    split at e
    · rename_i hz
      cases e
      exact ⟨ca, He, Γ, c, ds, c', r, e1, fun xs H1 rs s1 u1 => ⟨by rw [rs.len, sizeLine_is]; exact hz, fun p hp => q _ _ ((rk_newN hp rs u1).step s1 u1) (s1.trans (.new hp)) (u1.new hp)⟩⟩
    · cases e⟩
/-! ### calls of defs -/
def spOf (K : PySem.W.Frag) (n : Nat) (cu : Bool) (m : List D → Cup → Option (D × Cup)) : Sp := fun vs H Q _ => ∃ ca c ds ws d c', CupAt ca c H ∧ Rs K H ws ds ∧ ds.length = n ∧ vs = (if cu then .ref ca :: ws else ws) ∧
  m ds c = some (d, c') ∧ ∀ v H', R K H' v d → Sm ca H H' → CupAt ca c' H' → Q v H'
def sCall (m : List D → Cup → Option (D × Cup)) (g : SA) : SE := fun Γ c => (g Γ c).bind fun p => m p.1 p.2
theorem pd_call {x : Str} {p : Pos} {es : List Expr} {g : SA} {kf n : Nat} {fa : Addr} {fd : FuncData} {ps : List Str} {m : List D → Cup → Option (D × Cup)}
    (F : FnOk X.prog X.w X.K X.mg X.base CX0 kf fa fd ps (spOf X.K n false m)) (hr : Room kf X.A) (hm : X.mg x = some (.ref fa)) (hk : PySem.W.keepIn X.K (.ref fa) = true) (hb : Binds X.K fd ps [])
    (ha : PAd X z (e :: es) g) (hn : ALen g n) (hg : Gl X x := by rfl) (hdb : (x == ("__debug__" : Str)) = false := by decide) (he : starEach (e :: es) X.env = (false, eval e X.env) :: starEach es X.env := by rfl) (hpl : (backTo pos (starEach es X.env)).any (·.1) = false := by rfl) :
    PD X z (.Call (.Name x p) (e :: es) [] pos) .sh (sCall m g) :=
  ⟨pe_imp (pe_call F hr hg hm hk hb .nil pass0 ha.pa hdb he hpl) fun σ H Q ⟨ca, He, Γ, c, d, c', r, e, q⟩ => by
    obtain ⟨⟨ds, c1⟩, e1, e⟩ := bind_some' e
    refine ⟨ca, He, Γ, c, ds, c1, r, e1, fun xs H1 rs s1 u1 => ?_⟩
    refine ⟨ca, c1, ds, xs, d, c', u1, rs, hn _ _ _ _ e1, by simp, e, fun v H2 rv s2 u2 => ?_⟩
    exact q v H2 rv (s1.trans s2) u2⟩
/-- the first argument is the cup -/
theorem pd_callC {x y : Str} {p py : Pos} {es : List Expr} {g : SA} {kf n i : Nat} {fa : Addr} {fd : FuncData} {ps : List Str} {m : List D → Cup → Option (D × Cup)}
    (F : FnOk X.prog X.w X.K X.mg X.base CX0 kf fa fd ps (spOf X.K n true m)) (hr : Room kf X.A) (hm : X.mg x = some (.ref fa)) (hk : PySem.W.keepIn X.K (.ref fa) = true) (hb : Binds X.K fd ps [])
    (hi : z.cu = some i) (hN : X.N[i]? = some y) (ha : PAd X z es g) (hn : ALen g n) (hv : Vis X.env.scope y := by first | exact Or.inl rfl | exact Or.inr (Or.inl rfl) | exact Or.inr (Or.inr rfl)) (hg : Gl X x := by rfl) (hdb : (x == ("__debug__" : Str)) = false := by decide)
    (hd : (y == ("__debug__" : Str)) = false := by decide) (hcd : (y == ("__classdict__" : Str)) = false := by decide)
    (he : starEach (.Name y py :: es) X.env = (false, eval (.Name y py) X.env) :: starEach es X.env := by rfl) (hpl : (backTo pos (starEach es X.env)).any (·.1) = false := by rfl) :
    PD X z (.Call (.Name x p) (.Name y py :: es) [] pos) .sh (sCall m g) :=
  ⟨pe_imp (pe_call F hr hg hm hk hb .nil pass0 (pa_cons (pe_var hN hv hd hcd) ha.pa he) hdb he hpl) fun σ H Q ⟨ca, He, Γ, c, d, c', r, e, q⟩ => by
    obtain ⟨⟨ds, c1⟩, e1, e⟩ := bind_some' e
    refine ⟨_, r.cu i hi, ca, He, Γ, c, ds, c1, r, e1, fun xs H1 rs s1 u1 => ?_⟩
    refine ⟨ca, c1, ds, xs, d, c', u1, rs, hn _ _ _ _ e1, by simp, e, fun v H2 rv s2 u2 => ?_⟩
    exact q v H2 rv (s1.trans s2) u2⟩
end
end Wk
set_option Elab.async false
set_option linter.all false
set_option maxRecDepth 100000
set_option maxHeartbeats 4000000
namespace Wk
open PySem PySem.Spec PyProof.Rows L2
/-! ### statements -/
inductive Out where
  | nx (Γ : Ev) (c : Cup)
  | rt (d : D) (c : Cup)
  | bk (Γ : Ev) (c : Cup)
  | ct (Γ : Ev) (c : Cup)
abbrev SS := Ev → Cup → Option Out
def Fin (K : PySem.W.Frag) (z : Zs) (ca : Addr) (He H0 : Hp) : Out → Ends → Prop
  | .nx Γ c, Dn => ∀ σ H, Rel K z ca He Γ c σ H → Fz H0 H → Dn.nx σ H
  | .rt d c, Dn => ∀ v H, R K H v d → Sm ca He H → CupAt ca c H → Dn.rt v H
  | .bk Γ c, Dn => ∀ σ H, Rel K z ca He Γ c σ H → Fz H0 H → Dn.bk σ H
  | .ct Γ c, Dn => ∀ σ H, Rel K z ca He Γ c σ H → Fz H0 H → Dn.ct σ H
theorem Fin.back {K : PySem.W.Frag} {z : Zs} {ca : Addr} {He H0 H1 : Hp} {o : Out} {Dn : Ends} (q : Fin K z ca He H0 o Dn) (k : Fz H0 H1) : Fin K z ca He H1 o Dn := by
  cases o with
  | nx Γ c => exact fun σ H r l => q σ H r (k.trans l)
  | rt d c => exact q
  | bk Γ c => exact fun σ H r l => q σ H r (k.trans l)
  | ct Γ c => exact fun σ H r l => q σ H r (k.trans l)
def TDs (K : PySem.W.Frag) (z : Zs) (g : SS) : TS := fun Dn σ H => ∃ ca He Γ c o, Rel K z ca He Γ c σ H ∧ g Γ c = some o ∧ Fin K z ca He H o Dn
structure PSd (X : Cx) (z : Zs) (st : Stmt) (g : SS) : Prop where
  ps : PS X st (TDs X.K z g)
structure PBd (X : Cx) (z : Zs) (sts : List Stmt) (g : SS) : Prop where
  pb : PSs X sts (TDs X.K z g)
def sSkip : SS := fun Γ c => some (.nx Γ c)
def sNever : SS := fun _ _ => none
def thenO (o : Out) (g : SS) : Option Out := match o with
  | .nx Γ c => g Γ c
  | o => some o
def sSeq (f g : SS) : SS := fun Γ c => (f Γ c).bind fun o => thenO o g
def sDrop (f : SE) : SS := fun Γ c => (f Γ c).map fun p => .nx Γ p.2
def sRet (f : SE) : SS := fun Γ c => (f Γ c).map fun p => .rt p.1 p.2
def sRetN : SS := fun _ c => some (.rt .none c)
def sIte (t : STst) (f g : SS) : SS := fun Γ c => (t Γ c).bind fun p => if p.1 then f Γ p.2 else g Γ p.2
def sSet (i : Nat) (f : SE) : SS := fun Γ c => (f Γ c).map fun p => .nx (Γ.set i (some p.1)) p.2
section
variable {X : Cx} {z : Zs} {st : Stmt} {sts : List Stmt} {e : Expr} {k : Kd} {f : SE} {g h : SS} {t : STst} {pos : Pos} {c : Expr} {a b : List Stmt}
theorem pbd_nil : PBd X z [] sSkip := ⟨pss_imp pss_nil fun Dn σ H ⟨ca, He, Γ, c, o, r, e, q⟩ => by cases e; exact q σ H r (.refl H)⟩
theorem psd_pass : PSd X z (.Pass pos) sSkip := ⟨ps_imp ps_pass fun Dn σ H ⟨ca, He, Γ, c, o, r, e, q⟩ => by cases e; exact q σ H r (.refl H)⟩
theorem psd_break : PSd X z (.Break pos) (fun Γ c => some (.bk Γ c)) := ⟨ps_imp ps_break fun Dn σ H ⟨ca, He, Γ, c, o, r, e, q⟩ => by cases e; exact q σ H r (.refl H)⟩
theorem psd_continue : PSd X z (.Continue pos) (fun Γ c => some (.ct Γ c)) := ⟨ps_imp ps_continue fun Dn σ H ⟨ca, He, Γ, c, o, r, e, q⟩ => by cases e; exact q σ H r (.refl H)⟩
theorem psd_never : PSd X z st sNever := ⟨ps_imp ps_never fun Dn σ H ⟨ca, He, Γ, c, o, r, e, q⟩ => by cases e⟩
theorem pbd_cons (h1 : PSd X z st g) (h2 : PBd X z sts h) : PBd X z (st :: sts) (sSeq g h) :=
  ⟨pss_imp (pss_cons h1.ps h2.pb) fun Dn σ H ⟨ca, He, Γ, c, o, r, e, q⟩ => by
    obtain ⟨o1, e1, e2⟩ := bind_some' e
    refine ⟨ca, He, Γ, c, o1, r, e1, ?_⟩
    cases o1 with
    | nx Γ1 c1 => exact fun σ1 H1 r1 k1 => ⟨ca, He, Γ1, c1, o, r1, e2, q.back k1⟩
    | rt d c1 => cases e2; exact q
    | bk Γ1 c1 => cases e2; exact q
    | ct Γ1 c1 => cases e2; exact q⟩
theorem pbd_one (h1 : PSd X z st g) : PBd X z [st] g := ⟨pss_one h1.ps⟩
theorem psd_expr (he : PD X z e k f) (hs : swapsWith e none pos.line X.env = pure false := by rfl) : PSd X z (.Expr e pos) (sDrop f) :=
  ⟨ps_imp (ps_expr he.pe hs) fun Dn σ H ⟨ca, He, Γ, c, o, r, e, q⟩ => by
    obtain ⟨⟨d1, c1⟩, e1, e2⟩ := Option.map_eq_some_iff.mp e
    cases e2
    exact ⟨ca, He, Γ, c, d1, c1, r, e1, fun v H1 _ s1 u1 => q σ H1 (r.mono s1 u1) (s1.fz r.cup)⟩⟩
/-- what is returned is frozen -/
def TRt (K : PySem.W.Frag) (z : Zs) (f : SE) : TE := fun σ H Q => ∃ ca He Γ c d c', Rel K z ca He Γ c σ H ∧ f Γ c = some (d, c') ∧ ∀ v H', R K H' v d → Sm ca He H' → CupAt ca c' H' → Q v H'
theorem pe_rt (h : PD X z e k f) : PE X e (TRt X.K z f) := by
  refine ⟨fun pins s σ H Q I w => ?_⟩
  obtain ⟨ca, He, Γ, c, d, c', r, e, q⟩ := w
  refine thn (h.bo.pe.run pins s σ H (fun v H' => RK X.K .bo He H H' v d ∧ Sm ca H H' ∧ CupAt ca c' H') I ⟨ca, He, Γ, c, d, c', r, e, fun v H' a b c => ⟨a, b, c⟩⟩) fun u s1 ⟨v, H1, I1, rv, rk, s1', k1⟩ => ?_
  rcases rk with rk | ⟨a, ds, vs, rfl, rfl, n, hh, rr⟩
  · exact ⟨v, H1, I1, rv, q v H1 rk (r.sm.trans s1') k1⟩
  · obtain ⟨od, I2⟩ := I1.lock hh (show Mut (some (.lst vs)) from trivial)
    have na : a ≠ ca := r.ne n
    have fz : Fz H1 (upd H1 a (.frz od (.lst vs))) := fun b o hb fo => by
      rw [upd_ne]
      · exact hb
      · rintro rfl
        rw [hh] at hb
        cases hb
        exact fo
    refine ⟨_, _, I2, rv, q _ _ (.lst ⟨od, upd_same⟩ (rr.mono fz)) (fun b o nb hb => ?_) ?_⟩
    · rw [upd_ne (fun e => by rw [e, n] at hb; cases hb)]
      exact s1' b o nb (r.sm b o nb hb)
    · show upd _ _ _ ca = _
      rw [upd_ne na.symm]
      exact k1
theorem psd_ret (he : PD X z e k f) : PSd X z (.Return (some e) pos) (sRet f) :=
  ⟨ps_imp (ps_ret (pe_rt he)) fun Dn σ H ⟨ca, He, Γ, c, o, r, e, q⟩ => by
    obtain ⟨⟨d1, c1⟩, e1, e2⟩ := Option.map_eq_some_iff.mp e
    cases e2
    exact ⟨ca, He, Γ, c, d1, c1, r, e1, fun v H1 rv s1 u1 => q v H1 rv s1 u1⟩⟩
theorem psd_retN : PSd X z (.Return none pos) sRetN :=
  ⟨ps_imp ps_retN fun Dn σ H ⟨ca, He, Γ, c, o, r, e, q⟩ => by
    cases e
    exact q _ H .non r.sm r.cup⟩
theorem psd_if (hc : PTd X z c t) (ha : PBd X z a g) (hb : PBd X z b h) : PSd X z (.If c a b pos) (sIte t g h) :=
  ⟨ps_imp (ps_if hc.pt ha.pb hb.pb) fun Dn σ H ⟨ca, He, Γ, c, o, r, e, q⟩ => by
    obtain ⟨⟨b1, c1⟩, e1, e2⟩ := bind_some' e
    refine ⟨ca, He, Γ, c, b1, c1, r, e1, fun H1 s1 u1 => ?_⟩
    cases b1 with
    | true => exact ⟨ca, He, Γ, c1, o, r.mono s1 u1, e2, q.back (s1.fz r.cup)⟩
    | false => exact ⟨ca, He, Γ, c1, o, r.mono s1 u1, e2, q.back (s1.fz r.cup)⟩⟩
/-! ### stores -/
theorem get_set {α : Type} {l : List α} {i j : Nat} {x y : α} (h : (l.set i x)[j]? = some y) : (j = i ∧ y = x) ∨ (j ≠ i ∧ l[j]? = some y) := by
  by_cases e : j = i
  · subst e
    by_cases hl : j < l.length
    · rw [List.getElem?_set_self hl] at h
      exact .inl ⟨rfl, (Option.some.inj h).symm⟩
    · rw [List.getElem?_eq_none (by rw [List.length_set]; omega)] at h
      cases h
  · rw [List.getElem?_set_ne (Ne.symm e)] at h
    exact .inr ⟨e, h⟩
theorem Rel.lt {K : PySem.W.Frag} {ca : Addr} {He : Hp} {Γ : Ev} {c : Cup} {σ : L2.St} {H : Hp} (r : Rel K z ca He Γ c σ H) {i : Nat} {x : Option V} {d d' : Option D} (h : (Γ.set i d)[i]? = some d') : (σ.set i x)[i]? = some x := by
  have hl : i < (List.set Γ i d).length := (List.getElem?_eq_some_iff.mp h).1
  rw [List.length_set, ← r.len] at hl
  exact List.getElem?_set_self hl
theorem Rel.setV {K : PySem.W.Frag} {ca : Addr} {He : Hp} {Γ : Ev} {c : Cup} {σ : L2.St} {H : Hp} (r : Rel K z ca He Γ c σ H) {i : Nat} {v : V} {d : D} (hO : i ∉ z.O) (hc : z.cu ≠ some i) (q : R K H v d) : Rel K z ca He (Γ.set i (some d)) c (σ.set i (some v)) H where
  cup := r.cup
  sm := r.sm
  hca := r.hca
  cu := fun j hj => by
    rw [List.getElem?_set_ne (fun e => hc (by rw [e]; exact hj))]
    exact r.cu j hj
  val := fun j d' h n => by
    rcases get_set h with ⟨rfl, e⟩ | ⟨ne, h⟩
    · cases e
      exact ⟨v, r.lt h, q⟩
    · rw [List.getElem?_set_ne (Ne.symm ne)]
      exact r.val j d' h n
  own := fun j d' h n t => by
    rcases get_set h with ⟨rfl, e⟩ | ⟨ne, h⟩
    · exact absurd n hO
    · rw [List.getElem?_set_ne (Ne.symm ne)]
      exact r.own j d' h n t
  tab := fun j d' h n t => by
    rcases get_set h with ⟨rfl, e⟩ | ⟨ne, h⟩
    · exact absurd n hO
    · rw [List.getElem?_set_ne (Ne.symm ne)]
      exact r.tab j d' h n t
  dis := fun j l a d' e hj hl ne h1 h2 => by
    have nj : j ≠ i := fun z => hO (z ▸ hj)
    have nl : l ≠ i := fun z => hO (z ▸ hl)
    rw [List.getElem?_set_ne (Ne.symm nj)] at h1 ⊢
    rw [List.getElem?_set_ne (Ne.symm nl)] at h2 ⊢
    exact r.dis j l a d' e hj hl ne h1 h2
  len := by rw [List.length_set, List.length_set, r.len]
/-- a new list of the frame's own -/
theorem Rel.setO {K : PySem.W.Frag} {ca : Addr} {He : Hp} {Γ : Ev} {c : Cup} {σ : L2.St} {H : Hp} (r : Rel K z ca He Γ c σ H) {i : Nat} {a : Addr} {ds : List D} {vs : List V} (hO : i ∈ z.O) (hT : i ∉ z.T) (hc : z.cu ≠ some i) (ha : H a = some (.lst vs)) (hn : He a = none) (q : Rs K H vs ds)
    (ne : ∀ j d, j ∈ z.O → j ≠ i → Γ[j]? = some (some d) → σ[j]? ≠ some (some (.ref a))) : Rel K z ca He (Γ.set i (some (.list ds))) c (σ.set i (some (.ref a))) H where
  cup := r.cup
  sm := r.sm
  hca := r.hca
  cu := fun j hj => by
    rw [List.getElem?_set_ne (fun e => hc (by rw [e]; exact hj))]
    exact r.cu j hj
  val := fun j d' h n => by
    rcases get_set h with ⟨rfl, e⟩ | ⟨ne, h⟩
    · exact absurd hO n
    · rw [List.getElem?_set_ne (Ne.symm ne)]
      exact r.val j d' h n
  own := fun j d' h n t => by
    rcases get_set h with ⟨rfl, e⟩ | ⟨ne, h⟩
    · cases e
      exact ⟨a, ds, vs, rfl, r.lt h, ha, hn, q⟩
    · rw [List.getElem?_set_ne (Ne.symm ne)]
      exact r.own j d' h n t
  tab := fun j d' h n t => by
    rcases get_set h with ⟨rfl, e⟩ | ⟨ne, h⟩
    · exact absurd t hT
    · rw [List.getElem?_set_ne (Ne.symm ne)]
      exact r.tab j d' h n t
  dis := fun j l b d' e hj hl nn h1 h2 h3 h4 => by
    have h10 := h1
    have h20 := h2
    rcases get_set h1 with ⟨rfl, e1⟩ | ⟨n1, h1⟩
    · rcases get_set h2 with ⟨rfl, e2⟩ | ⟨n2, h2⟩
      · exact nn rfl
      · rw [r.lt h10] at h3
        cases h3
        rw [List.getElem?_set_ne (Ne.symm n2)] at h4
        exact ne l _ hl n2 (by assumption) h4
    · rw [List.getElem?_set_ne (Ne.symm n1)] at h3
      rcases get_set h2 with ⟨rfl, e2⟩ | ⟨n2, h2⟩
      · rw [r.lt h20] at h4
        cases h4
        exact ne j _ hj n1 (by assumption) h3
      · rw [List.getElem?_set_ne (Ne.symm n2)] at h4
        exact r.dis j l b d' e hj hl nn h1 h2 h3 h4
  len := by rw [List.length_set, List.length_set, r.len]
/-- the own list in slot i has changed -/
theorem Rel.upd {K : PySem.W.Frag} {ca : Addr} {He : Hp} {Γ : Ev} {c : Cup} {σ : L2.St} {H : Hp} (r : Rel K z ca He Γ c σ H) {i : Nat} {a : Addr} {d0 : D} {ds : List D} {vs ws : List V} (hO : i ∈ z.O) (hT : i ∉ z.T) (hg : Γ[i]? = some (some d0)) (hs : σ[i]? = some (some (.ref a))) (ha : H a = some (.lst vs)) (hn : He a = none) (q : Rs K H ws ds) :
    Rel K z ca He (Γ.set i (some (.list ds))) c σ (L2.upd H a (.lst ws)) := by
  have fz : Fz H (L2.upd H a (.lst ws)) := fun b o hb fo => by
    rw [upd_ne]
    · exact hb
    · rintro rfl
      rw [ha] at hb
      cases hb
      exact fo
  refine ⟨?_, ?_, r.hca, r.cu, fun j d' h n => ?_, fun j d' h n t => ?_, fun j d' h n t => ?_, fun j l b d' e hj hl nn h1 h2 h3 h4 => ?_, by rw [List.length_set, r.len]⟩
  · show L2.upd _ _ _ ca = _
    rw [upd_ne (r.ne hn).symm]
    exact r.cup
  · intro b o nb hb
    rw [upd_ne (fun e => by rw [e, hn] at hb; cases hb)]
    exact r.sm b o nb hb
  · rcases get_set h with ⟨rfl, e⟩ | ⟨ne, h⟩
    · exact absurd hO n
    · obtain ⟨v, e, q⟩ := r.val j d' h n
      exact ⟨v, e, q.mono fz⟩
  · rcases get_set h with ⟨rfl, e⟩ | ⟨ne, h⟩
    · cases e
      exact ⟨a, ds, ws, rfl, hs, upd_same, hn, q.mono fz⟩
    · obtain ⟨b, es, us, e1, e2, e3, e4, e5⟩ := r.own j d' h n t
      refine ⟨b, es, us, e1, e2, ?_, e4, e5.mono fz⟩
      rw [upd_ne]
      · exact e3
      · rintro rfl
        exact r.dis j i b d' d0 n hO ne h hg e2 hs
  · rcases get_set h with ⟨rfl, e⟩ | ⟨ne, h⟩
    · exact absurd t hT
    · obtain ⟨b, es, us, e1, e2, e3, e4, e5⟩ := r.tab j d' h n t
      refine ⟨b, es, us, e1, e2, ?_, e4, e5.mono fz⟩
      rw [upd_ne]
      · exact e3
      · rintro rfl
        exact r.dis j i b d' d0 n hO ne h hg e2 hs
  · have g1 : ∃ d, Γ[j]? = some (some d) := by
      rcases get_set h1 with ⟨rfl, e1⟩ | ⟨n1, h1⟩
      · exact ⟨d0, hg⟩
      · exact ⟨_, h1⟩
    have g2 : ∃ d, Γ[l]? = some (some d) := by
      rcases get_set h2 with ⟨rfl, e1⟩ | ⟨n1, h1⟩
      · exact ⟨d0, hg⟩
      · exact ⟨_, h1⟩
    obtain ⟨_, g1⟩ := g1
    obtain ⟨_, g2⟩ := g2
    exact r.dis j l b _ _ hj hl nn g1 g2 h3 h4
theorem fz_lst {H : Hp} {a : Addr} {vs ws : List V} (h : H a = some (.lst vs)) : Fz H (L2.upd H a (.lst ws)) := fun b o hb fo => by
  rw [upd_ne]
  · exact hb
  · rintro rfl
    rw [h] at hb
    cases hb
    exact fo
theorem psd_set {i : Nat} {x : Str} {pos' : Pos} (hN : X.N.Nodup) (he : PD X z e .sh f) (hi : X.N[i]? = some x := by rfl) (hO : i ∉ z.O := by decide) (hc : z.cu ≠ some i := by decide) (hx : Loc X.env.scope x := by first | exact Or.inl rfl | exact Or.inr rfl)
    (hs : swapsWith e (some (.Name x pos')) pos.line X.env = pure false := by rfl) (hf : X.fn x = true ∨ X.env.scope.names.lookup x = some .local := by first | exact .inl rfl | exact .inr rfl) : PSd X z (.Assign [.Name x pos'] e pos) (sSet i f) :=
  ⟨ps_imp (ps_set hN hi hx he.pe hs hf) fun Dn σ H ⟨ca, He, Γ, c, o, r, e, q⟩ => by
    obtain ⟨⟨d1, c1⟩, e1, e2⟩ := Option.map_eq_some_iff.mp e
    cases e2
    exact ⟨ca, He, Γ, c, d1, c1, r, e1, fun v H1 rv s1 u1 => q _ H1 ((r.mono s1 u1).setV hO hc rv) (s1.fz r.cup)⟩⟩
theorem psd_setO {i : Nat} {x : Str} {pos' : Pos} (hN : X.N.Nodup) (he : PD X z e .nw f) (hi : X.N[i]? = some x := by rfl) (hO : i ∈ z.O := by decide) (hT : i ∉ z.T := by decide) (hc : z.cu ≠ some i := by decide) (hx : Loc X.env.scope x := by first | exact Or.inl rfl | exact Or.inr rfl)
    (hs : swapsWith e (some (.Name x pos')) pos.line X.env = pure false := by rfl) (hf : X.fn x = true ∨ X.env.scope.names.lookup x = some .local := by first | exact .inl rfl | exact .inr rfl) : PSd X z (.Assign [.Name x pos'] e pos) (sSet i f) :=
  ⟨ps_imp (ps_set hN hi hx he.pe hs hf) fun Dn σ H ⟨ca, He, Γ, c, o, r, e, q⟩ => by
    obtain ⟨⟨d1, c1⟩, e1, e2⟩ := Option.map_eq_some_iff.mp e
    cases e2
    refine ⟨ca, He, Γ, c, d1, c1, r, e1, fun v H1 rv s1 u1 => ?_⟩
    obtain ⟨a, ds, vs, rfl, rfl, n, hh, rr⟩ := rv
    refine q _ H1 ((r.mono s1 u1).setO hO hT hc hh (r.sm.was r.cup n) rr fun j d hj nj hg hs => ?_) ?_
    · obtain ⟨b, _, e2, e3, _⟩ := r.any hg hj
      rw [e2] at hs
      cases hs
      rw [n] at e3
      cases e3
    · exact s1.fz r.cup⟩
/-! ### x.append(e), x[i] = e of an own list -/
def appO (i : Nat) (Γ : Ev) (d : D) (c : Cup) : Option Out := match Γ[i]? with
  | some (some (.list ds)) => if ds.length < 16777216 then some (.nx (Γ.set i (some (.list (ds ++ [d])))) c) else none
  | _ => none
def sApp (i : Nat) (f : SE) : SS := fun Γ c => (f Γ c).bind fun p => appO i Γ p.1 p.2
theorem psd_app {i : Nat} {x : Str} {p1 apos cpos : Pos} (he : PD X z e .sh f) (hi : X.N[i]? = some x := by rfl) (hO : i ∈ z.O := by decide) (hv : Vis X.env.scope x := by first | exact Or.inl rfl | exact Or.inr (Or.inl rfl) | exact Or.inr (Or.inr rfl))
    (hs : starEach [e] X.env = (false, eval e X.env) :: starEach [] X.env := by rfl) (hd : (x == ("__debug__" : Str)) = false := by decide) (hcd : (x == ("__classdict__" : Str)) = false := by decide)
    (hbase : attributeBase (.Name x p1) "append" X.env (eval (.Name x p1) X.env) = eval (.Name x p1) X.env := by rfl)
    (hfew : ((backTo cpos (starEach [e] X.env)).all (fun x => !x.1) && (backToKw cpos (keywordEach [] X.env)).all (fun x => x.1.isSome)
      && decide (([e] : List Expr).length + ([] : List Keyword).length + (if ([] : List Keyword).isEmpty then 0 else 1) < 30)) = true := by rfl)
    (hline : (apos.endLine == cpos.line) = true := by rfl) (hplain : (backTo cpos (starEach [] X.env)).any (·.1) = false := by rfl)
    (hsw : swapsWith (.Call (.Attribute (.Name x p1) "append" apos) [e] [] cpos) none pos.line X.env = pure false := by rfl) : PSd X z (.Expr (.Call (.Attribute (.Name x p1) "append" apos) [e] [] cpos) pos) (sApp i f) :=
  ⟨ps_imp (ps_expr (pe_bm PySem.F.plainAttrs_list PySem.F.slot_list_append PySem.F.type_list_append mt_append (pe_var hi hv hd hcd) (pa_cons he.pe pa_nil hs) hbase hfew hline hs hplain) hsw) fun Dn σ H ⟨ca, He, Γ, c, o, r, e, q⟩ => by
    obtain ⟨⟨d1, c1⟩, e1, e⟩ := bind_some' e
    simp only [appO] at e
    split at e
    · rename_i ds hg
      split at e
      · rename_i hz
        cases e
        have hT := r.notT hg hO
        obtain ⟨a, ds', vs, e6, e2, e3, e4, e5⟩ := r.own i _ hg hO hT
        cases e6
        refine ⟨_, e2, .inl ⟨rfl, vs, .of e3⟩, ca, He, Γ, _, d1, c1, r, e1, fun v H1 rv s1 u1 => ?_⟩
        have na := r.ne e4
        have h1 := s1 a _ na e3
        refine ⟨a, vs, v, rfl, rfl, h1, by rw [e5.len, sizeLine_is]; exact hz, ?_⟩
        exact q σ _ ((r.mono s1 u1).upd hO hT hg e2 h1 e4 ((e5.mono (s1.fz r.cup)).app (.cons rv .nil))) ((s1.fz r.cup).trans (fz_lst h1))
      · cases e
    · cases e⟩
def putO (i : Nat) (Γ : Ev) (k d : D) (c : Cup) : Option Out := match Γ[i]?, k with
  | some (some (.list ds)), .int k => (ixN ds.length k).map fun j => .nx (Γ.set i (some (.list (ds.set j d)))) c
  | _, _ => none
def sPut (i : Nat) (fv fi : SE) : SS := fun Γ c => (fv Γ c).bind fun p => (fi Γ p.2).bind fun r => putO i Γ r.1 p.1 r.2
theorem psd_put {i : Nat} {x : Str} {p1 spos : Pos} {ei : Expr} {fi : SE} {ki : Kd} (he : PD X z e .sh f) (hei : PD X z ei ki fi) (hi : X.N[i]? = some x := by rfl) (hO : i ∈ z.O := by decide) (hv : Vis X.env.scope x := by first | exact Or.inl rfl | exact Or.inr (Or.inl rfl) | exact Or.inr (Or.inr rfl))
    (hd : (x == ("__debug__" : Str)) = false := by decide) (hcd : (x == ("__classdict__" : Str)) = false := by decide)
    (hs : swapsWithSole [.Subscript (.Name x p1) ei spos] e pos.line X.env = pure false := by rfl) (hw : swappedStores [.Subscript (.Name x p1) ei spos] e X.env = pure none := by rfl)
    (h1 : (assignEach [.Subscript (.Name x p1) ei spos] X.env).map (·.2) = [assign (.Subscript (.Name x p1) ei spos) X.env] := by rfl)
    (ha : ∀ v, assign (.Subscript (.Name x p1) ei spos) X.env v = (do
      let ov ← holding [v] (eval (.Name x p1) X.env)
      let iv ← holding [v, ov] (eval ei X.env)
      standAt spos
      holding [v, ov, iv] (setItem ov iv v)
      release [v, ov, iv] []) := by intro _; rfl) : PSd X z (.Assign [.Subscript (.Name x p1) ei spos] e pos) (sPut i f fi) :=
  ⟨ps_imp (ps_asg he.pe (pg_sub (pe_var hi hv hd hcd) hei.pe set_list ha) hs hw h1) fun Dn σ H ⟨ca, He, Γ, c, o, r, e, q⟩ => by
    obtain ⟨⟨d1, c1⟩, e1, e⟩ := bind_some' e
    obtain ⟨⟨d2, c2⟩, e2, e⟩ := bind_some' e
    simp only [putO] at e
    split at e
    · rename_i ds k hg
      obtain ⟨j, e6, e7⟩ := Option.map_eq_some_iff.mp e
      cases e7
      refine ⟨ca, He, Γ, c, d1, c1, r, e1, fun v H1 rv s1 u1 => ?_⟩
      have r1 := r.mono s1 u1
      have hT := r1.notT hg hO
      obtain ⟨a, ds', vs, x1, x2, x3, x4, x5⟩ := r1.own i _ hg hO hT
      cases x1
      refine ⟨_, x2, ca, He, Γ, c1, _, c2, r1, e2, fun w H2 rw' s2 u2 => ?_⟩
      have r2 := r1.mono s2 u2
      have h3 := s2 a _ (r.ne x4) x3
      have rb := rw'.rb r1.hca u1
      refine ⟨a, vs, k, j, rfl, rb.int, h3, by rw [x5.len]; exact e6, ?_⟩
      exact q σ _ (r2.upd hO hT hg x2 h3 x4 ((x5.mono (s2.fz u1)).set (rv.mono (s2.fz u1)) j)) (((s1.trans s2).fz r.cup).trans (fz_lst h3))
    · cases e⟩
/-! ### the cup's two numbers -/
def sCup0 : SE := fun _ c => some (.int c.1, c)
def sCup1 : SE := fun _ c => some (.int c.2, c)
def sPut0 (f : SE) : SS := fun Γ c => (f Γ c).bind fun p => match p.1 with
  | .int i => some (.nx Γ (i, p.2.2))
  | _ => none
def sPut1 (f : SE) : SS := fun Γ c => (f Γ c).bind fun p => match p.1 with
  | .int i => some (.nx Γ (p.2.1, i))
  | _ => none
theorem pd_cup0 {i : Nat} {x : Str} {p1 p2 : Pos} {j : Nat} (hc : z.cu = some i := by rfl) (hi : X.N[i]? = some x := by rfl) (hv : Vis X.env.scope x := by first | exact Or.inl rfl | exact Or.inr (Or.inl rfl) | exact Or.inr (Or.inr rfl))
    (hd : (x == ("__debug__" : Str)) = false := by decide) (hcd : (x == ("__classdict__" : Str)) = false := by decide) : PD X z (.Subscript (.Name x p1) (.Constant (.int 0) j p2) pos) .sh sCup0 :=
  ⟨pe_imp (pe_ix ix_list (pe_var hi hv hd hcd) pe_int (fun _ _ => rfl)) fun σ H Q ⟨ca, He, Γ, c, d, c', r, e, q⟩ => by
    cases e
    exact ⟨_, r.cu i hc, ca, _, 0, _, rfl, rfl, .of r.cup, rfl, q _ H (.int _) (.refl H) r.cup⟩⟩
theorem pd_cup1 {i : Nat} {x : Str} {p1 p2 : Pos} {j : Nat} (hc : z.cu = some i := by rfl) (hi : X.N[i]? = some x := by rfl) (hv : Vis X.env.scope x := by first | exact Or.inl rfl | exact Or.inr (Or.inl rfl) | exact Or.inr (Or.inr rfl))
    (hd : (x == ("__debug__" : Str)) = false := by decide) (hcd : (x == ("__classdict__" : Str)) = false := by decide) : PD X z (.Subscript (.Name x p1) (.Constant (.int 1) j p2) pos) .sh sCup1 :=
  ⟨pe_imp (pe_ix ix_list (pe_var hi hv hd hcd) pe_int (fun _ _ => rfl)) fun σ H Q ⟨ca, He, Γ, c, d, c', r, e, q⟩ => by
    cases e
    exact ⟨_, r.cu i hc, ca, _, 1, _, rfl, rfl, .of r.cup, rfl, q _ H (.int _) (.refl H) r.cup⟩⟩
theorem Rel.cupd {K : PySem.W.Frag} {ca : Addr} {He : Hp} {Γ : Ev} {c c' : Cup} {σ : L2.St} {H : Hp} (r : Rel K z ca He Γ c σ H) : Rel K z ca He Γ c' σ (L2.upd H ca (.lst [.int c'.1, .int c'.2])) := by
  have fz : Fz H (L2.upd H ca (.lst [.int c'.1, .int c'.2])) := fun b o hb fo => by
    rw [upd_ne]
    · exact hb
    · rintro rfl
      rw [show H b = _ from r.cup] at hb
      cases hb
      exact fo
  refine ⟨upd_same, ?_, r.hca, r.cu, fun j d' h n => ?_, fun j d' h n t => ?_, fun j d' h n t => ?_, r.dis, r.len⟩
  · intro b o nb hb
    rw [upd_ne nb]
    exact r.sm b o nb hb
  · obtain ⟨v, e, q⟩ := r.val j d' h n
    exact ⟨v, e, q.mono fz⟩
  · obtain ⟨b, es, us, e1, e2, e3, e4, e5⟩ := r.own j d' h n t
    exact ⟨b, es, us, e1, e2, by rw [upd_ne (r.ne e4)]; exact e3, e4, e5.mono fz⟩
  · obtain ⟨b, es, us, e1, e2, e3, e4, e5⟩ := r.tab j d' h n t
    exact ⟨b, es, us, e1, e2, by rw [upd_ne (r.ne e4)]; exact e3, e4, e5.mono fz⟩
theorem psd_cup0 {i : Nat} {x : Str} {p1 p2 spos : Pos} {j : Nat} (he : PD X z e k f) (hc : z.cu = some i := by rfl) (hi : X.N[i]? = some x := by rfl) (hv : Vis X.env.scope x := by first | exact Or.inl rfl | exact Or.inr (Or.inl rfl) | exact Or.inr (Or.inr rfl))
    (hd : (x == ("__debug__" : Str)) = false := by decide) (hcd : (x == ("__classdict__" : Str)) = false := by decide)
    (hs : swapsWithSole [.Subscript (.Name x p1) (.Constant (.int 0) j p2) spos] e pos.line X.env = pure false := by rfl) (hw : swappedStores [.Subscript (.Name x p1) (.Constant (.int 0) j p2) spos] e X.env = pure none := by rfl)
    (h1 : (assignEach [.Subscript (.Name x p1) (.Constant (.int 0) j p2) spos] X.env).map (·.2) = [assign (.Subscript (.Name x p1) (.Constant (.int 0) j p2) spos) X.env] := by rfl) : PSd X z (.Assign [.Subscript (.Name x p1) (.Constant (.int 0) j p2) spos] e pos) (sPut0 f) :=
  ⟨ps_imp (ps_asg he.pe (pg_sub (pe_var hi hv hd hcd) pe_int set_list (by intro _; rfl)) hs hw h1) fun Dn σ H ⟨ca, He, Γ, c, o, r, e, q⟩ => by
    obtain ⟨⟨d1, c1⟩, e1, e⟩ := bind_some' e
    refine ⟨ca, He, Γ, c, d1, c1, r, e1, fun v H1 rv s1 u1 => ?_⟩
    have r1 := r.mono s1 u1
    have rb := rv.rb r.hca r.cup
    cases d1 <;> first
      | (cases e
         cases rb.int
         exact ⟨_, r1.cu i hc, ca, _, 0, 0, rfl, rfl, u1, rfl, q σ _ (r1.cupd (c' := (_, c1.2))) ((s1.fz r.cup).trans (fz_lst u1))⟩)
      | cases e⟩
theorem psd_cup1 {i : Nat} {x : Str} {p1 p2 spos : Pos} {j : Nat} (he : PD X z e k f) (hc : z.cu = some i := by rfl) (hi : X.N[i]? = some x := by rfl) (hv : Vis X.env.scope x := by first | exact Or.inl rfl | exact Or.inr (Or.inl rfl) | exact Or.inr (Or.inr rfl))
    (hd : (x == ("__debug__" : Str)) = false := by decide) (hcd : (x == ("__classdict__" : Str)) = false := by decide)
    (hs : swapsWithSole [.Subscript (.Name x p1) (.Constant (.int 1) j p2) spos] e pos.line X.env = pure false := by rfl) (hw : swappedStores [.Subscript (.Name x p1) (.Constant (.int 1) j p2) spos] e X.env = pure none := by rfl)
    (h1 : (assignEach [.Subscript (.Name x p1) (.Constant (.int 1) j p2) spos] X.env).map (·.2) = [assign (.Subscript (.Name x p1) (.Constant (.int 1) j p2) spos) X.env] := by rfl) : PSd X z (.Assign [.Subscript (.Name x p1) (.Constant (.int 1) j p2) spos] e pos) (sPut1 f) :=
  ⟨ps_imp (ps_asg he.pe (pg_sub (pe_var hi hv hd hcd) pe_int set_list (by intro _; rfl)) hs hw h1) fun Dn σ H ⟨ca, He, Γ, c, o, r, e, q⟩ => by
    obtain ⟨⟨d1, c1⟩, e1, e⟩ := bind_some' e
    refine ⟨ca, He, Γ, c, d1, c1, r, e1, fun v H1 rv s1 u1 => ?_⟩
    have r1 := r.mono s1 u1
    have rb := rv.rb r.hca r.cup
    cases d1 <;> first
      | (cases e
         cases rb.int
         exact ⟨_, r1.cu i hc, ca, _, 1, 1, rfl, rfl, u1, rfl, q σ _ (r1.cupd (c' := (c1.1, _))) ((s1.fz r.cup).trans (fz_lst u1))⟩)
      | cases e⟩
end
end Wk
set_option Elab.async false
set_option linter.all false
set_option maxRecDepth 100000
set_option maxHeartbeats 400000
namespace Wk
open PySem PySem.Spec PyProof.Rows L2
/-! ### what is walked -/
def KF : Addr → Hp → Hp → Prop := fun _ => Fz
def KS : Addr → Hp → Hp → Prop := Sm
def SrcAt (K : PySem.W.Frag) (ca : Addr) (kp : Addr → Hp → Hp → Prop) (H0 : Hp) (ds : List D) (J : It) : Prop := ∃ G Y, Walk J ds.length G Y ∧ (∀ H, kp ca H0 H → G H) ∧
  ∀ i H x H', i < ds.length → kp ca H0 H → Y i H x H' → ∃ d, ds[i]? = some d ∧ R K H' x d ∧ ∀ a o, H a = some o → H' a = some o
def TId (K : PySem.W.Frag) (z : Zs) (kp : Addr → Hp → Hp → Prop) (f : SA) : TI := fun σ H Rr => ∃ ca He Γ c ds c', Rel K z ca He Γ c σ H ∧ f Γ c = some (ds, c') ∧ ∀ J H', SrcAt K ca kp H' ds J → Sm ca H H' → CupAt ca c' H' → Rr J H'
structure PId (X : Cx) (z : Zs) (kp : Addr → Hp → Hp → Prop) (tg iter : Expr) (f : SA) : Prop where
  pi : PI X tg iter (TId X.K z kp f)
theorem pi_imp {X : Cx} {tg e : Expr} {t t' : TI} (h : PI X tg e t) (k : ∀ σ H Q, t' σ H Q → t σ H Q) : PI X tg e t' := ⟨fun pins s σ H Q I w => h.run pins s σ H Q I (k σ H Q w)⟩
def itemsOf : D → Option (List D)
  | .list ds => some ds
  | .tuple ds => some ds
  | .str s => some ((cl s).map fun n => ps [n])
  | _ => none
def sItems (f : SE) : SA := fun Γ c => (f Γ c).bind fun p => (itemsOf p.1).map fun ds => (ds, p.2)
def rangeD (lo : Int) (n : Nat) : List D := (List.range n).map fun i => .int (lo + (i : Nat))
def rangeC (lo c : Int) (n : Nat) : List D := (List.range n).map fun i => .int (lo + (i : Nat) * c)
def sRange1 (f : SE) : SA := fun Γ c => (f Γ c).bind fun p => match p.1 with
  | .int j => if -(2 ^ 62) ≤ j ∧ j < 2 ^ 62 then some (rangeD 0 j.toNat, p.2) else none
  | _ => none
def sRange2 (f g : SE) : SA := fun Γ c => (f Γ c).bind fun p => (g Γ p.2).bind fun q => match p.1, q.1 with
  | .int i, .int j => if (-(2 ^ 62) ≤ i ∧ i < 2 ^ 62) ∧ -(2 ^ 62) ≤ j ∧ j < 2 ^ 62 then some (rangeD i (j - i).toNat, q.2) else none
  | _, _ => none
section
variable {X : Cx} {z : Zs} {tg e : Expr} {k : Kd} {f g : SE} {pos : Pos} {kp : Addr → Hp → Hp → Prop}
theorem pi_any {te : TE} (he : PE X e te) : PI X tg e (fun σ H Rr => te σ H fun x H1 => (∃ a, x = .ref a ∧ (∃ xs, SqL X.K H1 a xs) ∧ Rr (Itl X.K a) H1) ∨ (∃ a, x = .ref a ∧ (∃ xs, SqT X.K H1 a xs) ∧ Rr (Itt X.K a) H1) ∨ (∃ s, x = .str s ∧ Rr (Its s) H1)) := by
  refine ⟨fun pins s σ H Rr I h => ?_⟩
  refine thn (he.run pins s σ H _ I h) fun v s1 ⟨y, H1, I1, r1, q1⟩ => ?_
  rcases q1 with ⟨a, rfl, ⟨xs, hq⟩, q⟩ | ⟨a, rfl, ⟨xs, hq⟩, q⟩ | ⟨x, rfl, q⟩
  · cases r1
    obtain ⟨its, rv, p, hz⟩ := I1.list hq
    refine wpAny_pyIter_list p.isList ?_
    refine ⟨s1.heap.objs.size, [s1.heap.objs.size], _, _, H1, rfl, I1.kept (t' := s1.toks) fun b o e => Heap.get?_push_of_some _ e, turn_list a _, ⟨_, Heap.get?_push_size _ rfl, rfl, rfl⟩, fun b hb => ?_, q⟩
    have e : b = s1.heap.objs.size := by simpa using hb
    subst e
    exact I1.fpOk (Nat.le_refl _) (I1.hok.fresh (Nat.le_refl _))
  · cases r1
    obtain ⟨its, rv, p, hz⟩ := I1.tuple hq
    refine wpAny_pyIter_tuple (show s1.heap.IsTuple a its.toArray from p) ?_
    refine ⟨s1.heap.objs.size, [s1.heap.objs.size], _, _, H1, rfl, I1.kept (t' := s1.toks) fun b o e => Heap.get?_push_of_some _ e, turn_tuple a _, ⟨_, Heap.get?_push_size _ rfl, rfl, rfl⟩, fun b hb => ?_, q⟩
    have e : b = s1.heap.objs.size := by simpa using hb
    subst e
    exact I1.fpOk (Nat.le_refl _) (I1.hok.fresh (Nat.le_refl _))
  · obtain ⟨t, rfl⟩ := r1
    cases ha : x.cps.all (· < 128)
    · exact wpAny_pyIter_wide ha (pi_one (tk := s1.toks) I1 _ (turn_str _ x t "str_iterator" (.inr rfl)) ⟨_, Heap.get?_push_size _ rfl, rfl, rfl⟩ q)
    · exact wpAny_pyIter_ascii ha (pi_one (tk := s1.toks) I1 _ (turn_str _ x t "str_ascii_iterator" (.inl rfl)) ⟨_, Heap.get?_push_size _ rfl, rfl, rfl⟩ q)
theorem src_list {K : PySem.W.Frag} {ca a : Addr} {H : Hp} {xs : List V} {ds : List D} (hk : ∀ H', kp ca H H' → SqL K H' a xs) (hf : ∀ H', kp ca H H' → Fz H H') (r : Rs K H xs ds) : SrcAt K ca kp H ds (Itl K a) := by
  refine ⟨fun H => SqL K H a xs, YAt xs, ?_, hk, fun i H1 x H2 hi kq y => ?_⟩
  · rw [← r.len]; exact walk_list
  · obtain ⟨e, h1⟩ := y
    subst e
    obtain ⟨d, h2, h3⟩ := r.get' h1
    exact ⟨d, h2, h3.mono (hf _ kq), fun _ _ h => h⟩
theorem src_tup {K : PySem.W.Frag} {ca a : Addr} {H : Hp} {xs : List V} {ds : List D} (hk : ∀ H', kp ca H H' → SqT K H' a xs) (hf : ∀ H', kp ca H H' → Fz H H') (r : Rs K H xs ds) : SrcAt K ca kp H ds (Itt K a) := by
  refine ⟨fun H => SqT K H a xs, YAt xs, ?_, hk, fun i H1 x H2 hi kq y => ?_⟩
  · rw [← r.len]; exact walk_tup
  · obtain ⟨e, h1⟩ := y
    subst e
    obtain ⟨d, h2, h3⟩ := r.get' h1
    exact ⟨d, h2, h3.mono (hf _ kq), fun _ _ h => h⟩
theorem src_str {K : PySem.W.Frag} {ca : Addr} {H : Hp} {s : Str} (h : okS s = true) : SrcAt K ca kp H ((cl s).map fun n => ps [n]) (Its s) := by
  refine ⟨fun _ => True, fun i H v H' => H' = H ∧ ∃ c, s.cps[i]? = some c ∧ v = .str ⟨#[c]⟩, ?_, fun _ _ => trivial, fun i H1 x H2 hi kq y => ?_⟩
  · rw [List.length_map]
    have := walk_str (z := s)
    rwa [show s.cps.size = (cl s).length from len_cl s] at this
  · obtain ⟨e, c, h1, h2⟩ := y
    subst e h2
    have hc : (cl s)[i]? = some c := by
      unfold cl
      rw [Array.getElem?_toList]
      exact h1
    refine ⟨ps [c], ?_, .str _ (okS_of (fun n hn => ?_) (by simp)), fun _ _ h => h⟩
    · rw [List.getElem?_map, hc]; rfl
    · have e : n = c := by simpa using hn
      subst e
      exact (okS_in h).1 n (List.mem_of_getElem? hc)
/-- what a loop walks does not change -/
theorem pid_items (he : PD X z e .sh f) : PId X z KF tg e (sItems f) :=
  ⟨pi_imp (pi_any he.pe) fun σ H Q ⟨ca, He, Γ, c, ds, c', r, e, q⟩ => by
    obtain ⟨⟨d1, c1⟩, e1, e⟩ := bind_some' e
    obtain ⟨ds', e2, e3⟩ := Option.map_eq_some_iff.mp e
    cases e3
    refine ⟨ca, He, Γ, c, d1, _, r, e1, fun x H1 rx s1 u1 => ?_⟩
    have rx : R X.K H1 x d1 := rx
    simp only at e2
    unfold itemsOf at e2
    split at e2
    · cases e2
      cases rx with
      | lst h rr => exact .inl ⟨_, rfl, ⟨_, h.sq⟩, q _ _ (src_list (fun H' k => (h.mono k).sq) (fun H' k => k) rr) s1 u1⟩
    · cases e2
      cases rx with
      | tup h rr => exact .inr (.inl ⟨_, rfl, ⟨_, h⟩, q _ _ (src_tup (fun H' k => SqT.mono h k) (fun H' k => k) rr) s1 u1⟩)
    · cases e2
      cases rx with
      | str s h => exact .inr (.inr ⟨_, rfl, q _ _ (src_str h) s1 u1⟩)
    · cases e2⟩
/-- what a comprehension walks: the frame's own lists too -/
theorem pid_itemsS (he : PD X z e k f) : PId X z KS tg e (sItems f) :=
  ⟨pi_imp (pi_any he.pe) fun σ H Q ⟨ca, He, Γ, c, ds, c', r, e, q⟩ => by
    obtain ⟨⟨d1, c1⟩, e1, e⟩ := bind_some' e
    obtain ⟨ds', e2, e3⟩ := Option.map_eq_some_iff.mp e
    cases e3
    refine ⟨ca, He, Γ, c, d1, _, r, e1, fun x H1 rx s1 u1 => ?_⟩
    have fz : ∀ H', KS ca H1 H' → Fz H1 H' := fun H' k => Sm.fz k u1
    rcases rx.rb r.hca r.cup with rx | ⟨a, es, vs, rfl, rfl, n, h, rr⟩
    · simp only at e2
      unfold itemsOf at e2
      split at e2
      · cases e2
        cases rx with
        | lst h rr => exact .inl ⟨_, rfl, ⟨_, h.sq⟩, q _ _ (src_list (fun H' k => (h.mono (fz _ k)).sq) fz rr) s1 u1⟩
      · cases e2
        cases rx with
        | tup h rr => exact .inr (.inl ⟨_, rfl, ⟨_, h⟩, q _ _ (src_tup (fun H' k => SqT.mono h (fz _ k)) fz rr) s1 u1⟩)
      · cases e2
        cases rx with
        | str s h => exact .inr (.inr ⟨_, rfl, q _ _ (src_str h) s1 u1⟩)
      · cases e2
    · cases e2
      exact .inl ⟨_, rfl, ⟨_, .of h⟩, q _ _ (src_list (fun H' k => .of (k _ _ n h)) fz rr) s1 u1⟩⟩
theorem src_range {K : PySem.W.Frag} {ca : Addr} {H : Hp} (lo : Int) (n : Nat) : SrcAt K ca kp H (rangeD lo n) (Itr lo n) := by
  refine ⟨fun _ => True, YFn fun i => .int (lo + i), ?_, fun _ _ => trivial, fun i H1 x H2 hi kq y => ?_⟩
  · unfold rangeD
    rw [List.length_map, List.length_range]
    exact walk_range
  · obtain ⟨e, h1⟩ := y
    subst e h1
    unfold rangeD at hi ⊢
    rw [List.length_map, List.length_range] at hi
    refine ⟨.int (lo + (i : Nat)), ?_, .int _, fun _ _ h => h⟩
    rw [List.getElem?_map, List.getElem?_range hi]
    rfl
theorem pid_range1 {p : Pos} (he : PD X z e k f) (hm : X.mg "range" = none) (hg : Gl X "range" := by rfl) (hs0 : starEach (e :: []) X.env = (false, eval e X.env) :: starEach [] X.env := by rfl) (hs : starEach [e] X.env = [(false, eval e X.env)] := by rfl) : PId X z kp tg (.Call (.Name "range" p) [e] [] pos) (sRange1 f) :=
  ⟨pi_imp (pi_range1 hg hm (pa_cons he.pe pa_nil hs0) hs) fun σ H Q ⟨ca, He, Γ, c, ds, c', r, e, q⟩ => by
    obtain ⟨⟨d1, c1⟩, e1, e⟩ := bind_some' e
    refine ⟨ca, He, Γ, c, d1, c1, r, e1, fun x H1 rx s1 u1 => ?_⟩
    have rb := rx.rb r.hca r.cup
    simp only at e
    split at e
    · split at e
      · rename_i hz
        cases e
        cases rb.int
        exact ⟨_, rfl, hz.1, hz.2, q _ _ (src_range 0 _) s1 u1⟩
      · cases e
    · cases e⟩
theorem pid_range2 {p : Pos} {b : Expr} {k' : Kd} (he : PD X z e k f) (hb : PD X z b k' g) (hm : X.mg "range" = none) (hg : Gl X "range" := by rfl) (hs0 : starEach [b] X.env = (false, eval b X.env) :: starEach [] X.env := by rfl) (hs1 : starEach [e, b] X.env = (false, eval e X.env) :: starEach [b] X.env := by rfl)
    (hs : starEach [e, b] X.env = [(false, eval e X.env), (false, eval b X.env)] := by rfl) (hs2 : starEach [b] X.env = [(false, eval b X.env)] := by rfl) : PId X z kp tg (.Call (.Name "range" p) [e, b] [] pos) (sRange2 f g) :=
  ⟨pi_imp (pi_range2 hg hm (pa_cons he.pe (pa_cons hb.pe pa_nil hs0) hs1) hs hs2) fun σ H Q ⟨ca, He, Γ, c, ds, c', r, e, q⟩ => by
    obtain ⟨⟨d1, c1⟩, e1, e⟩ := bind_some' e
    obtain ⟨⟨d2, c2⟩, e2, e⟩ := bind_some' e
    refine ⟨ca, He, Γ, c, d1, c1, r, e1, fun x H1 rx s1 u1 => ?_⟩
    refine ⟨ca, He, Γ, c1, d2, c2, r.mono s1 u1, e2, fun y H2 ry s2 u2 => ?_⟩
    have rb1 := rx.rb r.hca r.cup
    have rb2 := ry.rb r.hca u1
    simp only at e
    split at e
    · split at e
      · rename_i hz
        cases e
        cases rb1.int
        cases rb2.int
        exact ⟨_, _, rfl, ⟨hz.1.1, hz.1.2, hz.2.1, hz.2.2⟩, q _ _ (src_range _ _) (s1.trans s2) u2⟩
      · cases e
    · cases e⟩
end
end Wk
set_option Elab.async false
set_option linter.all false
set_option maxRecDepth 100000
set_option maxHeartbeats 400000
namespace Wk
open PySem PySem.Spec PyProof.Rows L2
section
variable {X : Cx} {z : Zs} {tg e : Expr} {k : Kd} {f g : SE} {pos : Pos} {kp : Addr → Hp → Hp → Prop}
/-! ### targets of loops -/
def Agree (is : List Nat) (σ σ' : L2.St) : Prop := σ'.length = σ.length ∧ ∀ j, j ∉ is → σ'[j]? = σ[j]?
theorem wipe_get {σ : L2.St} {vs : List Nat} (j : Nat) : (wipe σ vs)[j]? = if j ∈ vs ∧ j < σ.length then some none else σ[j]? := by
  induction vs with
  | nil => simp [wipe]
  | cons v vs ih =>
    unfold wipe
    by_cases e : j = v
    · subst e
      by_cases h : j < σ.length
      · rw [List.getElem?_set_self (by rw [wipe_length]; exact h)]; simp [h]
      · rw [List.getElem?_eq_none (by rw [List.length_set, wipe_length]; omega)]
        simp [h]
    · rw [List.getElem?_set_ne (Ne.symm e), ih]
      simp [e]
theorem wipe_agree {is vs : List Nat} {σ σ' : L2.St} (h : Agree is σ σ') (hs : ∀ i ∈ is, i ∈ vs) : wipe σ' vs = wipe σ vs := by
  refine List.ext_getElem? fun j => ?_
  rw [wipe_get, wipe_get, h.1]
  by_cases hj : j ∈ vs ∧ j < σ.length
  · rw [if_pos hj, if_pos hj]
  · rw [if_neg hj, if_neg hj]
    by_cases hv : j ∈ vs
    · have hl : ¬ j < σ.length := fun z => hj ⟨hv, z⟩
      rw [List.getElem?_eq_none (l := σ') (by rw [h.1]; omega), List.getElem?_eq_none (l := σ) (by omega)]
    · exact h.2 j fun z => hv (hs j z)
abbrev STg := D → Ev → Option Ev
def TGd (K : PySem.W.Frag) (z : Zs) (is : List Nat) (g : STg) : TG := fun v σ H Q => ∃ ca He Γ c d Γ', Rel K z ca He Γ c σ H ∧ R K H v d ∧ g d Γ = some Γ' ∧ ∀ σ', Rel K z ca He Γ' c σ' H → Agree is σ σ' → Q σ' H
structure PGd (X : Cx) (z : Zs) (tg : Expr) (is : List Nat) (g : STg) : Prop where
  pg : PG X tg (TGd X.K z is g)
  ag : ∀ d Γ Γ', g d Γ = some Γ' → ∀ j, j ∉ is → Γ'[j]? = Γ[j]?
def tgN (i : Nat) : STg := fun d Γ => some (Γ.set i (some d))
theorem pg_imp {e : Expr} {t t' : TG} (h : PG X e t) (k : ∀ v σ H Q, t' v σ H Q → t v σ H Q) : PG X e t' := ⟨fun pins s σ H v u Q I r w => h.run pins s σ H v u Q I r (k v σ H Q w)⟩
theorem pgd_name {i : Nat} {x : Str} (hN : X.N.Nodup) (hi : X.N[i]? = some x := by rfl) (hO : i ∉ z.O := by decide) (hc : z.cu ≠ some i := by decide) (hx : Loc X.env.scope x := by first | exact Or.inl rfl | exact Or.inr rfl)
    (hf : X.fn x = true ∨ X.env.scope.names.lookup x = some .local := by first | exact .inl rfl | exact .inr rfl) : PGd X z (.Name x pos) [i] (tgN i) :=
  ⟨pg_imp (pg_name hN hi hx hf) fun v σ H Q ⟨ca, He, Γ, c, d, Γ', r, rv, e, q⟩ => by
    cases e
    refine q _ (r.setV hO hc rv) ⟨by rw [List.length_set], fun j hj => ?_⟩
    rw [List.getElem?_set_ne (fun e => hj (by simp [e]))], fun d Γ Γ' e j hj => by
    cases e
    rw [List.getElem?_set_ne (fun e => hj (by simp [e]))]⟩
/-- a, b, .. = a tuple of that length -/
def TGs (K : PySem.W.Frag) (z : Zs) (is : List Nat) (g : List D → Ev → Option Ev) : L2.TGs := fun vs σ H Q => ∃ ca He Γ c ds Γ', Rel K z ca He Γ c σ H ∧ Rs K H vs ds ∧ g ds Γ = some Γ' ∧ ∀ σ', Rel K z ca He Γ' c σ' H → Agree is σ σ' → Q σ' H
structure PGsd (X : Cx) (z : Zs) (tgs : List Expr) (is : List Nat) (g : List D → Ev → Option Ev) : Prop where
  pg : PGs X tgs (TGs X.K z is g)
  ag : ∀ d Γ Γ', g d Γ = some Γ' → ∀ j, j ∉ is → Γ'[j]? = Γ[j]?
theorem pgs_imp {es : List Expr} {t t' : L2.TGs} (h : PGs X es t) (k : ∀ v σ H Q, t' v σ H Q → t v σ H Q) : PGs X es t' := ⟨fun pins s σ H v u Q I r w => h.run pins s σ H v u Q I r (k v σ H Q w)⟩
def tgNil : List D → Ev → Option Ev := fun ds Γ => match ds with
  | [] => some Γ
  | _ => none
def tgCons (g : STg) (h : List D → Ev → Option Ev) : List D → Ev → Option Ev := fun ds Γ => match ds with
  | [] => none
  | d :: r => (g d Γ).bind fun Γ' => h r Γ'
theorem pgsd_nil : PGsd X z [] [] tgNil := ⟨pgs_imp pgs_nil fun v σ H Q ⟨ca, He, Γ, c, ds, Γ', r, rv, e, q⟩ => by
  unfold tgNil at e
  split at e
  · cases e
    cases rv
    exact ⟨rfl, q _ r ⟨rfl, fun _ _ => rfl⟩⟩
  · exact (nomatch e), fun d Γ Γ' e j hj => by
  unfold tgNil at e
  split at e
  · cases e; rfl
  · cases e⟩
theorem pgsd_cons {es : List Expr} {is js : List Nat} {g : STg} {h : List D → Ev → Option Ev} (h1 : PGd X z e is g) (h2 : PGsd X z es js h) (hs : (assignEach (e :: es) X.env).map (·.2) = assign e X.env :: (assignEach es X.env).map (·.2) := by rfl) : PGsd X z (e :: es) (is ++ js) (tgCons g h) :=
  ⟨pgs_imp (pgs_cons h1.pg h2.pg hs) fun v σ H Q ⟨ca, He, Γ, c, ds, Γ', r, rv, e, q⟩ => by
    unfold tgCons at e
    split at e
    · cases e
    · obtain ⟨Γ1, e1, e2⟩ := bind_some' e
      cases rv with
      | cons r1 r2 =>
        refine ⟨_, _, rfl, ca, He, Γ, c, _, Γ1, r, r1, e1, fun σ1 rl1 a1 => ?_⟩
        refine ⟨ca, He, Γ1, c, _, Γ', rl1, r2, e2, fun σ2 rl2 a2 => ?_⟩
        exact q _ rl2 ⟨a2.1.trans a1.1, fun j hj => (a2.2 j fun z => hj (List.mem_append_right _ z)).trans (a1.2 j fun z => hj (List.mem_append_left _ z))⟩, fun d Γ Γ' e j hj => by
    unfold tgCons at e
    split at e
    · cases e
    · obtain ⟨Γ1, e1, e2⟩ := bind_some' e
      exact (h2.ag _ _ _ e2 j fun z => hj (List.mem_append_right _ z)).trans (h1.ag _ _ _ e1 j fun z => hj (List.mem_append_left _ z))⟩
def tgTup (n : Nat) (g : List D → Ev → Option Ev) : STg := fun d Γ => match d with
  | .tuple ds => if ds.length = n then g ds Γ else none
  | _ => none
theorem pgd_tup {es : List Expr} {kk : Nat} {is : List Nat} {n : Nat} {g : List D → Ev → Option Ev} (hc : X.calm = true) (h : PGsd X z es is g) (hn : (assignEach es X.env).length = n := by rfl) (hst : (assignEach es X.env).findIdx? (·.1) = none := by rfl) : PGd X z (.Tuple es kk pos) is (tgTup n g) :=
  ⟨pg_imp (pg_tup hc h.pg hn hst) fun v σ H Q ⟨ca, He, Γ, c, d, Γ', r, rv, e, q⟩ => by
    unfold tgTup at e
    split at e
    · split at e
      · rename_i hl
        cases rv with
        | tup h1 rr => exact ⟨_, _, rfl, h1, by rw [rr.len]; exact hl, ca, He, Γ, c, _, Γ', r, rr, e, q⟩
      · cases e
    · exact (nomatch e), fun d Γ Γ' e j hj => by
    unfold tgTup at e
    split at e
    · split at e
      · exact h.ag _ _ _ e j hj
      · cases e
    · cases e⟩
/-! ### for -/
def forD (tg : STg) (b : SS) : List D → Ev → Cup → Option Out
  | [], Γ, c => some (.nx Γ c)
  | d :: r, Γ, c => (tg d Γ).bind fun Γ' => (b Γ' c).bind fun o => match o with
    | .nx Γ2 c2 => forD tg b r Γ2 c2
    | .ct Γ2 c2 => forD tg b r Γ2 c2
    | .bk Γ2 c2 => some (.nx Γ2 c2)
    | .rt d c2 => some (.rt d c2)
def sFor (src : SA) (tg : STg) (b : SS) : SS := fun Γ c => (src Γ c).bind fun p => forD tg b p.1 Γ p.2
theorem drop_get {ds : List D} {i : Nat} {d : D} (h : ds[i]? = some d) : ds.drop i = d :: ds.drop (i + 1) := by
  have hl : i < ds.length := (List.getElem?_eq_some_iff.mp h).1
  rw [List.drop_eq_getElem_cons hl]
  rw [List.getElem?_eq_getElem hl] at h
  cases h
  rfl
theorem psd_for {tg iter : Expr} {body : List Stmt} {is : List Nat} {src : SA} {g : STg} {b : SS} (hp : PassesOwn (model X.prog X.w) X.A X.env X.xe) (hc : X.calm = true) (hi : PId X z KF tg iter src) (hg : PGd X z tg is g) (hb : PBd X z body b)
    (hs : ∀ x, foldedSetIterable iter X.env x = pure x := by intro _; rfl) : PSd X z (.For tg iter body [] pos) (sFor src g b) := by
  refine ⟨ps_imp (ps_for hp hc hi.pi hg.pg hb.pb hs) fun Dn σ H ⟨ca, He, Γ, c, o, r, e, q⟩ => ?_⟩
  obtain ⟨⟨ds, c1⟩, e1, e⟩ := bind_some' e
  refine ⟨ca, He, Γ, c, ds, c1, r, e1, fun J H1 ⟨G, Y, w, hG, hY⟩ s1 u1 => ?_⟩
  refine for_it w (fun i σ H => ∃ Γ c, Rel X.K z ca He Γ c σ H ∧ Fz H1 H ∧ forD g b (ds.drop i) Γ c = some o) ⟨Γ, c1, r.mono s1 u1, .refl _, e⟩ (fun i σ H _ ⟨_, _, _, k, _⟩ => hG H k) ?_ ?_
  · rintro i x σ2 H2 H3 hi ⟨Γ2, c2, r2, k2, e2⟩ y
    obtain ⟨d, hd, rx, kp⟩ := hY i H2 x H3 hi k2 y
    rw [drop_get hd] at e2
    obtain ⟨Γ3, e3, e2⟩ := bind_some' e2
    obtain ⟨o4, e4, e2⟩ := bind_some' e2
    have s3 : Sm ca H2 H3 := fun a o _ h => kp a o h
    have r3 := r2.mono s3 (kp _ _ r2.cup)
    have k3 : Fz H1 H3 := k2.trans fun a o h _ => kp a o h
    refine ⟨ca, He, Γ2, c2, d, Γ3, r3, rx, e3, fun σ4 r4 _ => ?_⟩
    refine ⟨ca, He, Γ3, c2, o4, r4, e4, ?_⟩
    cases o4 with
    | nx Γ5 c5 => exact fun σ5 H5 r5 k5 => ⟨Γ5, c5, r5, k3.trans k5, e2⟩
    | ct Γ5 c5 => exact fun σ5 H5 r5 k5 => ⟨Γ5, c5, r5, k3.trans k5, e2⟩
    | bk Γ5 c5 =>
      cases e2
      exact fun σ5 H5 r5 k5 => q σ5 H5 r5 (((s1.fz r.cup).trans k3).trans k5)
    | rt d5 c5 =>
      cases e2
      exact fun v5 H5 r5 k5 u5 => q v5 H5 r5 k5 u5
  · rintro σ2 H2 ⟨Γ2, c2, r2, k2, e2⟩
    rw [List.drop_length] at e2
    cases e2
    exact q σ2 H2 r2 ((s1.fz r.cup).trans k2)
/-! ### while -/
def whD (t : STst) (b : SS) : Nat → Ev → Cup → Option Out
  | 0, _, _ => none
  | n + 1, Γ, c => (t Γ c).bind fun p => if p.1 then (b Γ p.2).bind fun o => match o with
      | .nx Γ2 c2 => whD t b n Γ2 c2
      | .ct Γ2 c2 => whD t b n Γ2 c2
      | .bk Γ2 c2 => some (.nx Γ2 c2)
      | .rt d c2 => some (.rt d c2)
    else some (.nx Γ p.2)
def sWhile (n : Nat) (t : STst) (b : SS) : SS := whD t b n
theorem psd_while {c : Expr} {body : List Stmt} {t : STst} {b : SS} (n : Nat) (hp : PassesOwn (model X.prog X.w) X.A X.env X.xe) (hc : PTd X z c t) (hb : PBd X z body b) : PSd X z (.While c body [] pos) (sWhile n t b) := by
  refine ⟨ps_imp (ps_while hp hc.pt hb.pb) fun Dn σ H ⟨ca, He, Γ, c, o, r, e, q⟩ => ?_⟩
  refine ⟨fun m σ1 H1 => ∃ Γ c, Rel X.K z ca He Γ c σ1 H1 ∧ Fz H H1 ∧ whD t b m Γ c = some o, ⟨n, Γ, c, r, .refl _, e⟩, ?_⟩
  rintro m σ1 H1 ⟨Γ1, c1, r1, k1, e1⟩
  cases m with
  | zero => cases e1
  | succ m =>
    obtain ⟨⟨b2, c2⟩, e2, e1⟩ := bind_some' e1
    refine ⟨ca, He, Γ1, c1, b2, c2, r1, e2, fun H2 s2 u2 => ?_⟩
    have k2 := k1.trans (s2.fz r1.cup)
    cases b2 with
    | false =>
      cases e1
      refine iteF ?_
      exact q σ1 H2 (r1.mono s2 u2) k2
    | true =>
      refine iteT ?_
      obtain ⟨o3, e3, e1⟩ := bind_some' e1
      refine ⟨fun σ' H' => ∃ Γ c, Rel X.K z ca He Γ c σ' H' ∧ Fz H H' ∧ whD t b m Γ c = some o, fun σ' H' h => ⟨m, Nat.lt_succ_self m, h⟩, ?_⟩
      refine ⟨ca, He, Γ1, c2, o3, r1.mono s2 u2, e3, ?_⟩
      cases o3 with
      | nx Γ5 c5 => exact fun σ5 H5 r5 k5 => ⟨Γ5, c5, r5, k2.trans k5, e1⟩
      | ct Γ5 c5 => exact fun σ5 H5 r5 k5 => ⟨Γ5, c5, r5, k2.trans k5, e1⟩
      | bk Γ5 c5 =>
        cases e1
        exact fun σ5 H5 r5 k5 => q σ5 H5 r5 (k2.trans k5)
      | rt d5 c5 =>
        cases e1
        exact fun v5 H5 r5 k5 u5 => q v5 H5 r5 k5 u5
/-! ### comprehensions -/
def compD (tg : STg) (cd : STst) (f : SE) : List D → Ev → Cup → Option (List D × Cup)
  | [], _, c => some ([], c)
  | d :: r, Γ, c => (tg d Γ).bind fun Γ' => (cd Γ' c).bind fun b => if b.1 then (f Γ' b.2).bind fun p => (compD tg cd f r Γ p.2).map fun q => (p.1 :: q.1, q.2) else compD tg cd f r Γ b.2
def wipeE (Γ : Ev) : List Nat → Ev
  | [] => Γ
  | v :: vs => (wipeE Γ vs).set v none
def sYes : STst := fun _ c => some (true, c)
def sComp (vs : List Nat) (src : SA) (tg : STg) (cd : STst) (f : SE) : SE := fun Γ c => (src Γ c).bind fun p => if p.1.length ≤ 16777216 then (compD tg cd f p.1 (wipeE Γ vs) p.2).map fun q => (.list q.1, q.2) else none
theorem wipeE_get {Γ : Ev} {vs : List Nat} {j : Nat} {d : D} (h : (wipeE Γ vs)[j]? = some (some d)) : j ∉ vs ∧ Γ[j]? = some (some d) := by
  induction vs with
  | nil => exact ⟨by simp, h⟩
  | cons v vs ih =>
    unfold wipeE at h
    rcases get_set h with ⟨_, e⟩ | ⟨n, h⟩
    · cases e
    · obtain ⟨h1, h2⟩ := ih h
      exact ⟨by simp [n, h1], h2⟩
theorem wipeE_len {Γ : Ev} : ∀ vs : List Nat, (wipeE Γ vs).length = Γ.length
  | [] => rfl
  | v :: vs => by unfold wipeE; rw [List.length_set, wipeE_len vs]
theorem Rel.wipe {K : PySem.W.Frag} {ca : Addr} {He : Hp} {Γ : Ev} {c : Cup} {σ : L2.St} {H : Hp} (r : Rel K z ca He Γ c σ H) {vs : List Nat} (hc : ∀ i, z.cu = some i → i ∉ vs) : Rel K z ca He (wipeE Γ vs) c (L2.wipe σ vs) H where
  cup := r.cup
  sm := r.sm
  hca := r.hca
  cu := fun i hi => by
    rw [wipe_get, if_neg (fun z => hc i hi z.1)]
    exact r.cu i hi
  val := fun i d h n => by
    obtain ⟨h1, h2⟩ := wipeE_get h
    rw [wipe_get, if_neg (fun z => h1 z.1)]
    exact r.val i d h2 n
  own := fun i d h n t => by
    obtain ⟨h1, h2⟩ := wipeE_get h
    rw [wipe_get, if_neg (fun z => h1 z.1)]
    exact r.own i d h2 n t
  tab := fun i d h n t => by
    obtain ⟨h1, h2⟩ := wipeE_get h
    rw [wipe_get, if_neg (fun z => h1 z.1)]
    exact r.tab i d h2 n t
  dis := fun i j a d e hi hj ne h1 h2 h3 => by
    obtain ⟨n1, g1⟩ := wipeE_get h1
    obtain ⟨n2, g2⟩ := wipeE_get h2
    rw [wipe_get, if_neg (fun z => n1 z.1)] at h3
    rw [wipe_get, if_neg (fun z => n2 z.1)]
    exact r.dis i j a d e hi hj ne g1 g2 h3
  len := by rw [wipe_length, wipeE_len, r.len]
def CuOk (z : Zs) (vs : List Nat) : Bool := match z.cu with
  | none => true
  | some i => !vs.contains i
theorem CuOk.ok {z : Zs} {vs : List Nat} (h : CuOk z vs = true) : ∀ i, z.cu = some i → i ∉ vs := fun i hi hm => by
  unfold CuOk at h
  rw [hi] at h
  simp [hm] at h
structure PTds (X : Cx) (z : Zs) (ifs : List Expr) (f : STst) : Prop where
  pt : PTs X ifs (TTd X.K z f)
theorem ptds_nil : PTds X z [] sYes := ⟨⟨fun pins s σ H Q I w => by
  obtain ⟨ca, He, Γ, c, b, c', r, e, q⟩ := w
  cases e
  exact pts_nil.run pins s σ H Q I (q H (.refl H) r.cup)⟩⟩
theorem ptds_one {c : Expr} {t : STst} (h : PTd X z c t) : PTds X z [c] t := ⟨pts_one h.pt⟩
section
variable {elt iter : Expr} {ifs : List Expr} {scope : Scope} {own : List (Str × Nat)} {is : List Nat} {src : SA} {g : STg} {cd : STst}
theorem tLc_of {K : PySem.W.Frag} {vs : List Nat} (hcu : ∀ i, z.cu = some i → i ∉ vs) (his : ∀ i ∈ is, i ∈ vs) (σ : L2.St) (H : Hp) (Q : VK) (w : TD K z .nw (sComp vs src g cd f) σ H Q) : tLc (TId K z KS src) (TGd K z is g) (TTd K z cd) (TD K z .sh f) vs σ H Q := by
  obtain ⟨ca, He, Γ, c, d, c', r, e, q⟩ := w
  obtain ⟨⟨ds, c1⟩, e1, e⟩ := bind_some' e
  simp only at e
  split at e
  · rename_i hz
    obtain ⟨⟨out, c2⟩, e2, e3⟩ := Option.map_eq_some_iff.mp e
    cases e3
    refine ⟨ca, He, Γ, c, ds, c1, r, e1, fun J H1 ⟨G, Y, w, hG, hY⟩ s1 u1 D hD => ?_⟩
    have r1 := r.mono s1 u1
    have nD : D ≠ ca := fun e => by rw [e, show H1 ca = _ from u1] at hD; cases hD
    -- the list so far, the rest
    refine lc_it w (fun i H2 => ∃ acc vs' rest c3, Sm ca H1 H2 ∧ CupAt ca c3 H2 ∧ H2 D = some (.lst vs') ∧ Rs K H2 vs' acc ∧ acc.length ≤ i ∧ compD g cd f (ds.drop i) (wipeE Γ vs) c3 = some (rest, c2) ∧ acc ++ rest = out)
      ⟨[], [], out, c1, .new hD, u1.new hD, upd_same, .nil, Nat.le_refl _, e2, rfl⟩ (fun i H2 _ ⟨_, _, _, _, s2, _⟩ => hG H2 s2) ?_ ?_
    · rintro i x H2 H3 hi ⟨acc, vs', rest, c3, s2, u2, hl, ha, hn, e4, e5⟩ y
      obtain ⟨d3, hd, rx, kp⟩ := hY i H2 x H3 hi s2 y
      rw [drop_get hd] at e4
      obtain ⟨Γ3, e6, e4⟩ := bind_some' e4
      obtain ⟨⟨b3, c4⟩, e7, e4⟩ := bind_some' e4
      have s3 : Sm ca H2 H3 := fun a o _ h => kp a o h
      have u3 : CupAt ca c3 H3 := kp _ _ u2
      have rw3 : Rel K z ca He (wipeE Γ vs) c3 (L2.wipe σ vs) H3 := ((r1.mono s2 u2).mono s3 u3).wipe hcu
      refine ⟨ca, He, _, c3, d3, Γ3, rw3, rx, e6, fun σ4 r4 a4 => ⟨?_, ?_⟩⟩
      · have h5 := wipe_agree a4 his
        rw [h5]
        have h6 : L2.wipe (L2.wipe σ vs) vs = L2.wipe σ vs := by
          refine List.ext_getElem? fun j => ?_
          rw [wipe_get, wipe_length, wipe_get]
          split <;> rfl
        exact h6
      · refine ⟨ca, He, Γ3, c3, b3, c4, r4, e7, fun H5 s5 u5 => ?_⟩
        have s25 := s3.trans s5
        cases b3 with
        | false =>
          refine iteF ?_
          exact ⟨acc, vs', rest, c4, s2.trans s25, u5, s25 _ _ nD hl, ha.mono (s25.fz u2), by omega, e4, e5⟩
        | true =>
          refine iteT ?_
          obtain ⟨⟨d6, c6⟩, e8, e4⟩ := bind_some' e4
          obtain ⟨⟨q6, c7⟩, e9, e10⟩ := Option.map_eq_some_iff.mp e4
          cases e10
          refine ⟨ca, He, Γ3, c4, d6, c6, r4.mono s5 u5, e8, fun v6 H6 r6 s6 u6 => ?_⟩
          have s26 := s25.trans s6
          have hl6 := s26 _ _ nD hl
          have fz6 := s26.fz u2
          refine ⟨vs', hl6, ?_, acc ++ [d6], vs' ++ [v6], q6, c6, ?_, ?_, upd_same, ?_, ?_, e9, ?_⟩
          · rw [ha.len, sizeLine_is]; omega
          · intro a o na h
            have n2 : a ≠ D := fun e => by rw [e, hD] at h; cases h
            rw [upd_ne n2]
            exact s26 _ _ na (s2 _ _ na h)
          · show upd _ _ _ ca = _
            rw [upd_ne nD.symm]
            exact u6
          · exact ((ha.mono fz6).app (.cons r6 .nil)).mono (fz_lst hl6)
          · rw [List.length_append]
            exact Nat.succ_le_succ hn
          · rw [List.append_assoc]
            exact e5
    · rintro H2 ⟨acc, vs', rest, c3, s2, u2, hl, ha, hn, e4, e5⟩
      rw [List.drop_length] at e4
      cases e4
      rw [List.append_nil] at e5
      subst e5
      exact q _ H2 ⟨D, acc, vs', rfl, rfl, s1.was u1 hD, hl, ha⟩ (s1.trans s2) u2
  · cases e
theorem pd_comp (hc : X.calm = true) (hN : X.N.Nodup) (ok : BlkOk X.N X.env.scope scope own) (hi : PId X z KS tg iter src)
    (hg : ∀ (s : Shared) (H : Hp) (C : Addr) (cl : List (Str × Addr)) (fp : List Addr), PGd (X.blk s H scope (compEnvC scope cl C X.env) fp) z tg is g)
    (ht : ∀ (s : Shared) (H : Hp) (C : Addr) (cl : List (Str × Addr)) (fp : List Addr), PTds (X.blk s H scope (compEnvC scope cl C X.env) fp) z ifs cd)
    (he : ∀ (s : Shared) (H : Hp) (C : Addr) (cl : List (Str × Addr)) (fp : List Addr), PD (X.blk s H scope (compEnvC scope cl C X.env) fp) z elt .sh f)
    (hcu : CuOk z (own.map (·.2)) = true) (his : ∀ i ∈ is, i ∈ own.map (·.2)) (hs : ∀ x, foldedSetIterable iter X.env x = pure x := by intro _; rfl) : PD X z (.ListComp elt [⟨tg, iter, ifs, 0⟩] scope pos) .nw (sComp (own.map (·.2)) src g cd f) :=
  ⟨pe_imp (pe_lc hc hN hi.pi ok (fun s H C cl fp => (hg s H C cl fp).pg) (fun s H C cl fp => (ht s H C cl fp).pt) (fun s H C cl fp => (he s H C cl fp).pe) hs) (tLc_of (CuOk.ok hcu) his)⟩
end
end
end Wk
set_option Elab.async false
set_option linter.all false
set_option maxRecDepth 100000
set_option maxHeartbeats 1000000
namespace Wk
open PySem PySem.Spec PyProof.Rows L2
/-! ### built-in functions -/
def sU (g : D → Option D) (f : SE) : SE := fun Γ c => (f Γ c).bind fun p => (g p.1).map fun d => (d, p.2)
def Cb1 (X : Cx) (k : Kd) (v : Value) (g : D → Option D) : Prop := ∃ r : List V → Hp → VK → Prop, CallR X v r ∧
  ∀ (ca : Addr) (c : Cup) (He H : Hp) (x : V) (dx d : D) (Q : VK), Rb X.K ca H x dx → g dx = some d → CupAt ca c H →
    (∀ v H', RK X.K k He H H' v d → Sm ca H H' → CupAt ca c H' → Q v H') → r [x] H Q
section
variable {X : Cx} {z : Zs} {e a b : Expr} {k k' kk : Kd} {f fa fb : SE} {g : D → Option D} {pos p : Pos} {x : Str} {id T : String}
theorem tU_of {K : PySem.W.Frag} {r : List V → Hp → VK → Prop}
    (hr : ∀ (ca : Addr) (c : Cup) (He H : Hp) (x : V) (dx d : D) (Q : VK), Rb K ca H x dx → g dx = some d → CupAt ca c H →
    (∀ v H', RK K kk He H H' v d → Sm ca H H' → CupAt ca c H' → Q v H') → r [x] H Q) (σ : L2.St) (H : Hp) (Q : VK) (w : TD K z kk (sU g f) σ H Q) : tCB r (tCons (TD K z k f) tNil) σ H Q := by
  obtain ⟨ca, He, Γ, c, d, c', rl, e, q⟩ := w
  obtain ⟨⟨d1, c1⟩, e1, e⟩ := bind_some' e
  obtain ⟨d2, e2, e3⟩ := Option.map_eq_some_iff.mp e
  cases e3
  refine ⟨ca, He, Γ, c, d1, _, rl, e1, fun x H1 rx s1 u1 => ?_⟩
  exact hr ca _ He H1 x d1 d Q (rx.rb rl.hca rl.cup) e2 u1 fun v H2 rv s2 u2 => q v H2 (rv.step s1 u1) (s1.trans s2) u2
theorem pd_b1 (h : Cb1 X kk (.builtin id) g) (ha : PD X z e k f) (hm : X.mg x = none) (hv : bootBuiltins x = some (.builtin id)) (hg : Gl X x := by rfl) (hs0 : starEach [e] X.env = (false, eval e X.env) :: starEach [] X.env := by rfl) (hn : x ≠ "__name__" := by decide) (hdb : (x == ("__debug__" : Str)) = false := by decide)
    (hpl : (backTo pos (starEach [] X.env)).any (·.1) = false := by rfl) : PD X z (.Call (.Name x p) [e] [] pos) kk (sU g f) := by
  obtain ⟨r, h1, h2⟩ := h
  exact ⟨pe_imp (pe_callB h1 hg hm hv (pa_cons ha.pe pa_nil hs0) hn hdb hs0 hpl) (tU_of h2)⟩
theorem pd_t1 (h : Cb1 X kk (.type T) g) (ha : PD X z e k f) (hm : X.mg x = none) (hv : bootBuiltins x = some (.type T)) (hg : Gl X x := by rfl) (hs0 : starEach [e] X.env = (false, eval e X.env) :: starEach [] X.env := by rfl) (hn : x ≠ "__name__" := by decide) (hdb : (x == ("__debug__" : Str)) = false := by decide)
    (hpl : (backTo pos (starEach [] X.env)).any (·.1) = false := by rfl) : PD X z (.Call (.Name x p) [e] [] pos) kk (sU g f) := by
  obtain ⟨r, h1, h2⟩ := h
  exact ⟨pe_imp (pe_callTy h1 hg hm hv (pa_cons ha.pe pa_nil hs0) hn hdb hs0 hpl) (tU_of h2)⟩
def bLen : D → Option D
  | .list ds => some (.int ds.length)
  | .tuple ds => some (.int ds.length)
  | .str s => some (.int (cl s).length)
  | _ => none
theorem b_len : Cb1 X .sh (.builtin "len") bLen := by
  refine ⟨_, CallR.or call_len_seq call_len_str, fun ca c He H x dx d Q rx e u q => ?_⟩
  unfold bLen at e
  split at e
  · cases e
    obtain ⟨l, vs, e1, h1, r1⟩ := rx.list
    exact .inl ⟨l, vs, by rw [e1], .inl (.inl h1), by rw [r1.len]; exact q _ H (.int _) (.refl H) u⟩
  · cases e
    obtain ⟨l, vs, e1, h1, r1⟩ := rx.tup
    exact .inl ⟨l, vs, by rw [e1], .inr h1, by rw [r1.len]; exact q _ H (.int _) (.refl H) u⟩
  · cases e
    obtain ⟨e1, o1⟩ := rx.str
    refine .inr ⟨_, by rw [e1], by rw [sizeLine_is]; exact okS.le o1, ?_⟩
    rw [len_cl]
    exact q _ H (.int _) (.refl H) u
  · cases e
def bTuple : D → Option D
  | .list ds => some (.tuple ds)
  | .tuple ds => some (.tuple ds)
  | _ => none
theorem b_tuple : Cb1 X .sh (.type "tuple") bTuple := by
  refine ⟨_, call_tuple_of, fun ca c He H x dx d Q rx e u q => ?_⟩
  unfold bTuple at e
  split at e
  · cases e
    obtain ⟨l, vs, e1, h1, r1⟩ := rx.list
    exact ⟨l, vs, by rw [e1], .inl ⟨.inl h1, fun p hp => q _ _ (rk_tup hp r1 u) (.new hp) (u.new hp)⟩⟩
  · cases e
    obtain ⟨l, vs, e1, h1, r1⟩ := rx.tup
    exact ⟨l, vs, by rw [e1], .inr ⟨h1, q _ H (.tup h1 r1) (.refl H) u⟩⟩
  · cases e
def bList : D → Option D
  | .list ds => some (.list ds)
  | .tuple ds => some (.list ds)
  | _ => none
theorem b_list : Cb1 X .nw (.type "list") bList := by
  refine ⟨_, call_list_of, fun ca c He H x dx d Q rx e u q => ?_⟩
  unfold bList at e
  split at e
  · cases e
    obtain ⟨l, vs, e1, h1, r1⟩ := rx.list
    exact ⟨l, vs, by rw [e1], .inl (.inl h1), fun p hp => q _ _ (rk_newN hp r1 u) (.new hp) (u.new hp)⟩
  · cases e
    obtain ⟨l, vs, e1, h1, r1⟩ := rx.tup
    exact ⟨l, vs, by rw [e1], .inr h1, fun p hp => q _ _ (rk_newN hp r1 u) (.new hp) (u.new hp)⟩
  · cases e
def bInt : D → Option D
  | .int i => some (.int i)
  | _ => none
theorem b_int : Cb1 X .sh (.type "int") bInt := by
  refine ⟨_, call_int1, fun ca c He H x dx d Q rx e u q => ?_⟩
  unfold bInt at e
  split at e
  · cases e
    exact .inl ⟨_, by rw [rx.int], q _ H (.int _) (.refl H) u⟩
  · cases e
def bAbs : D → Option D
  | .int i => some (.int (if i < 0 then -i else i))
  | _ => none
theorem b_abs : Cb1 X .sh (.builtin "abs") bAbs := by
  refine ⟨_, call_abs, fun ca c He H x dx d Q rx e u q => ?_⟩
  unfold bAbs at e
  split at e
  · cases e
    exact ⟨_, by rw [rx.int], q _ H (.int _) (.refl H) u⟩
  · cases e
def bStr : D → Option D
  | .str s => some (.str s)
  | _ => none
theorem b_str : Cb1 X .sh (.type "str") bStr := by
  refine ⟨_, SkE.call_str_str, fun ca c He H x dx d Q rx e u q => ?_⟩
  unfold bStr at e
  split at e
  · cases e
    obtain ⟨e1, o1⟩ := rx.str
    exact ⟨_, by rw [e1], q _ H (.str _ o1) (.refl H) u⟩
  · cases e
/-! ### lists of bools, of ints -/
def boolsOf : List D → Option (List Bool)
  | [] => some []
  | .bool b :: r => (boolsOf r).map (b :: ·)
  | _ :: _ => none
def intsOf : List D → Option (List Int)
  | [] => some []
  | .int i :: r => (intsOf r).map (i :: ·)
  | _ :: _ => none
theorem Rs.bools {K : PySem.W.Frag} {H : Hp} : ∀ {ds : List D} {vs : List V} {bs : List Bool}, Rs K H vs ds → boolsOf ds = some bs → vs = bs.map V.bl
  | [], _, _, .nil, h => by cases h; rfl
  | d :: ds, _, bs, .cons r t, h => by
    cases d <;> first
      | (obtain ⟨bs', h1, h2⟩ := Option.map_eq_some_iff.mp h
         cases h2
         cases r
         rw [t.bools h1]
         rfl)
      | cases h
theorem Rs.ints {K : PySem.W.Frag} {H : Hp} : ∀ {ds : List D} {vs : List V} {ns : List Int}, Rs K H vs ds → intsOf ds = some ns → vs = ns.map V.int
  | [], _, _, .nil, h => by cases h; rfl
  | d :: ds, _, ns, .cons r t, h => by
    cases d <;> first
      | (obtain ⟨ns', h1, h2⟩ := Option.map_eq_some_iff.mp h
         cases h2
         cases r
         rw [t.ints h1]
         rfl)
      | cases h
def bAll : D → Option D
  | .list ds => (boolsOf ds).map fun bs => .bool (bs.all (fun b => b))
  | _ => none
def bAny : D → Option D
  | .list ds => (boolsOf ds).map fun bs => .bool (bs.any (fun b => b))
  | _ => none
theorem b_all (hc : X.calm = true) : Cb1 X .sh (.builtin "all") bAll := by
  refine ⟨_, cr_all hc, fun ca c He H x dx d Q rx e u q => ?_⟩
  unfold bAll at e
  split at e
  · obtain ⟨bs, h1, h2⟩ := Option.map_eq_some_iff.mp e
    cases h2
    obtain ⟨l, vs, e1, h3, r1⟩ := rx.list
    exact ⟨l, bs, by rw [e1], by rw [← r1.bools h1]; exact .inl h3, q _ H (.bl _) (.refl H) u⟩
  · cases e
theorem b_any (hc : X.calm = true) : Cb1 X .sh (.builtin "any") bAny := by
  refine ⟨_, cr_any hc, fun ca c He H x dx d Q rx e u q => ?_⟩
  unfold bAny at e
  split at e
  · obtain ⟨bs, h1, h2⟩ := Option.map_eq_some_iff.mp e
    cases h2
    obtain ⟨l, vs, e1, h3, r1⟩ := rx.list
    exact ⟨l, bs, by rw [e1], by rw [← r1.bools h1]; exact .inl h3, q _ H (.bl _) (.refl H) u⟩
  · cases e
/-! ### isinstance of a built-in type -/
def tyName : D → String
  | .none => "NoneType"
  | .bool _ => "bool"
  | .int _ => "int"
  | .str _ => "str"
  | .list _ => "list"
  | .tuple _ => "tuple"
  | .dict _ => "dict"
inductive BT | int | bool | str | tuple | list
def BT.nm : BT → String
  | .int => "int"
  | .bool => "bool"
  | .str => "str"
  | .tuple => "tuple"
  | .list => "list"
def isTy : BT → D → Bool
  | .int, .int _ => true
  | .int, .bool _ => true
  | .bool, .bool _ => true
  | .str, .str _ => true
  | .tuple, .tuple _ => true
  | .list, .list _ => true
  | _, _ => false
theorem Rb.ty {K : PySem.W.Frag} {ca : Addr} {H : Hp} {v : V} {d : D} (r : Rb K ca H v d) : TyX K H v (.type (tyName d)) := by
  rcases r with r | ⟨a, ds, vs, rfl, rfl, n, h, r⟩
  · cases r with
    | non => exact .base .non
    | bl b => exact .base (.bl b)
    | int i => exact .base (.int i)
    | str x h => exact .base (.str x)
    | lst h rr => obtain ⟨o, h⟩ := h; exact .base (.frz h)
    | tup h rr =>
      rcases h with (h | ⟨o, h⟩) | ⟨o, its, n, hk, hc, _⟩
      · exact .base (.tup h)
      · exact .fTuple h
      · exact .kTuple hk hc
  · exact .base (.lst h)
theorem ty_ok (T : BT) (d : D) : kitB (tyName d) T.nm = some (isTy T d) := by
  cases T <;> cases d <;> (simp only [tyName, BT.nm, isTy]; decide +kernel)
def sIsi (T : BT) (f : SE) : SE := fun Γ c => (f Γ c).map fun p => (.bool (isTy T p.1), p.2)
theorem pd_isi {y : Str} {py : Pos} (T : BT) (ha : PD X z e k f) (hm : X.mg "isinstance" = none) (hmy : X.mg y = none) (hvy : bootBuiltins y = some (.type T.nm)) (hg : Gl X "isinstance" := by rfl) (hgy : Gl X y := by rfl) (hny : y ≠ "__name__" := by decide) (hdy : (y == ("__debug__" : Str)) = false := by decide)
    (hs0 : starEach [e, .Name y py] X.env = (false, eval e X.env) :: starEach [.Name y py] X.env := by rfl) (hs1 : starEach [.Name y py] X.env = (false, eval (.Name y py) X.env) :: starEach [] X.env := by rfl)
    (hpl : (backTo pos (starEach [.Name y py] X.env)).any (·.1) = false := by rfl) : PD X z (.Call (.Name "isinstance" p) [e, .Name y py] [] pos) .sh (sIsi T f) :=
  ⟨pe_imp (pe_callB call_isi hg hm (by decide +kernel) (pa_cons ha.pe (pa_cons (pe_bltn (v := .ty T.nm) hgy hmy hvy rfl hny hdy) pa_nil hs1) hs0) (by decide) (by decide) hs0 hpl) fun σ H Q ⟨ca, He, Γ, c, d, c', rl, e, q⟩ => by
    obtain ⟨⟨d1, c1⟩, e1, e2⟩ := Option.map_eq_some_iff.mp e
    cases e2
    refine ⟨ca, He, Γ, c, d1, _, rl, e1, fun x H1 rx s1 u1 => ?_⟩
    exact ⟨x, .ty T.nm, _, _, isTy T d1, rfl, .ty T.nm, (rx.rb rl.hca rl.cup).ty, kit_ty (ty_ok T d1), q _ H1 (.bl _) s1 u1⟩⟩
/-! ### methods of texts -/
def strsOf : List D → Option (List Str)
  | [] => some []
  | .str s :: r => (strsOf r).map (s :: ·)
  | _ :: _ => none
theorem Rs.strs {K : PySem.W.Frag} {H : Hp} : ∀ {ds : List D} {vs : List V} {ss : List Str}, Rs K H vs ds → strsOf ds = some ss → vs = ss.map V.str ∧ ∀ s ∈ ss, okS s = true
  | [], _, _, .nil, h => by cases h; exact ⟨rfl, by simp⟩
  | d :: ds, _, bs, .cons r t, h => by
    cases d <;> first
      | (obtain ⟨bs', h1, h2⟩ := Option.map_eq_some_iff.mp h
         cases h2
         cases r with
         | str _ ok =>
           obtain ⟨e1, e2⟩ := t.strs h1
           refine ⟨by rw [e1]; rfl, fun s hs => ?_⟩
           rcases List.mem_cons.mp hs with rfl | hs
           · exact ok
           · exact e2 s hs)
      | cases h
def joinL (sep : List Nat) : List (List Nat) → List Nat
  | [] => []
  | [x] => x
  | x :: y :: r => x ++ sep ++ joinL sep (y :: r)
theorem cl_join (sep : Str) : ∀ ss : List Str, cl (Txt.join sep ss) = joinL (cl sep) (ss.map cl) := by
  intro ss
  rw [TL.join_eq]
  induction ss with
  | nil => rfl
  | cons x r ih =>
    cases r with
    | nil => rfl
    | cons y r =>
      show cl (x ++ sep ++ Str.join sep (y :: r)) = cl x ++ cl sep ++ joinL (cl sep) (cl y :: r.map cl)
      rw [str_app, cl_mk, str_app, cl_mk, ih]
      rfl
def mJoin : D → D → Option D
  | .str s, .list ds => (strsOf ds).bind fun ss => if (ss.map fun s => (cl s).length).sum + ss.length * (cl s).length ≤ 16777216 then some (ps (joinL (cl s) (ss.map cl))) else none
  | .str s, .tuple ds => (strsOf ds).bind fun ss => if (ss.map fun s => (cl s).length).sum + ss.length * (cl s).length ≤ 16777216 then some (ps (joinL (cl s) (ss.map cl))) else none
  | _, _ => none
theorem joinL_mem {sep : List Nat} {n : Nat} : ∀ {l : List (List Nat)}, n ∈ joinL sep l → n ∈ sep ∨ ∃ x ∈ l, n ∈ x
  | [], h => by cases h
  | [x], h => .inr ⟨x, by simp, h⟩
  | x :: y :: r, h => by
    unfold joinL at h
    rcases List.mem_append.mp h with h | h
    · rcases List.mem_append.mp h with h | h
      · exact .inr ⟨x, by simp, h⟩
      · exact .inl h
    · rcases joinL_mem h with h | ⟨w, h1, h2⟩
      · exact .inl h
      · exact .inr ⟨w, List.mem_cons_of_mem _ h1, h2⟩
theorem joinL_len {sep : List Nat} : ∀ {l : List (List Nat)}, (joinL sep l).length ≤ (l.map List.length).sum + l.length * sep.length
  | [] => by simp [joinL]
  | [x] => by simp [joinL]
  | x :: y :: r => by
    have := joinL_len (sep := sep) (l := y :: r)
    unfold joinL
    rw [List.length_append, List.length_append, List.map_cons, List.sum_cons]
    have e : (x :: y :: r).length * sep.length = (y :: r).length * sep.length + sep.length := by rw [List.length_cons, Nat.succ_mul]
    omega
def Mt1 (X : Cx) (T : String) (k : Kd) (id : String) (g : D → D → Option D) : Prop := ∃ r : V → List V → Hp → VK → Prop, MtR X id r ∧
  ∀ (ca : Addr) (c : Cup) (He H : Hp) (x y : V) (dx dy d : D) (Q : VK), Rb X.K ca H x dx → Rb X.K ca H y dy → g dx dy = some d → CupAt ca c H →
    (∀ v H', RK X.K k He H H' v d → Sm ca H H' → CupAt ca c H' → Q v H') → r x [y] H Q
/-- the method's own type is known from the datum -/
def TyD (T : String) (g : D → D → Option D) : Prop := ∀ (K : PySem.W.Frag) (ca : Addr) (H : Hp) (x : V) (dx dy d : D), Rb K ca H x dx → g dx dy = some d → tyV K T x H
theorem pd_m1 {T : String} {name : Str} {o : Expr} {apos cpos : Pos} {gg : D → D → Option D} (pa : PlainAttrs T) (slot : Slot T name id) (hty : typeOf (.builtin id) = pure (.type "method_descriptor")) (h : Mt1 X T kk id gg) (ht : TyD T gg)
    (ho : PD X z o k fa) (ha : PD X z e k' fb) (hs : starEach [e] X.env = (false, eval e X.env) :: starEach [] X.env := by rfl) (hbase : attributeBase o name X.env (eval o X.env) = eval o X.env := by rfl)
    (hfew : ((backTo cpos (starEach [e] X.env)).all (fun x => !x.1) && (backToKw cpos (keywordEach [] X.env)).all (fun x => x.1.isSome)
      && decide (([e] : List Expr).length + ([] : List Keyword).length + (if ([] : List Keyword).isEmpty then 0 else 1) < 30)) = true := by rfl)
    (hline : (apos.endLine == cpos.line) = true := by rfl) (hplain : (backTo cpos (starEach [] X.env)).any (·.1) = false := by rfl) : PD X z (.Call (.Attribute o name apos) [e] [] cpos) kk (sOp gg fa fb) := by
  obtain ⟨r, h1, h2⟩ := h
  refine ⟨pe_imp (pe_bm pa slot hty h1 ho.pe (pa_cons ha.pe pa_nil hs) hbase hfew hline hs hplain) fun σ H Q ⟨ca, He, Γ, c, d, c', rl, e, q⟩ => ?_⟩
  obtain ⟨dx, c1, dy, e1, e2, e3⟩ := sOp_some e
  refine ⟨ca, He, Γ, c, dx, c1, rl, e1, fun x H1 rx s1 u1 => ?_⟩
  have rb1 := rx.rb rl.hca rl.cup
  refine ⟨ht _ ca H1 x dx dy d rb1 e3, ?_⟩
  refine ⟨ca, He, Γ, c1, dy, c', rl.mono s1 u1, e2, fun y H2 ry s2 u2 => ?_⟩
  refine h2 ca c' He H2 x y dx dy d Q (rb1.mono s2 u1) (ry.rb rl.hca u1) e3 u2 fun v H' rv s3 u3 => ?_
  exact q v H' (rv.step (s1.trans s2) u2) ((s1.trans s2).trans s3) u3
theorem ty_join : TyD "str" mJoin := fun K ca H x dx dy d rx e => by
  unfold mJoin at e
  split at e
  · rw [rx.str.1]; rfl
  · rw [rx.str.1]; rfl
  · cases e
theorem cl_join' (sep : Str) (ss : List Str) : Txt.join sep ss = ⟨(joinL (cl sep) (ss.map cl)).toArray⟩ := by rw [← cl_ps (Txt.join sep ss), cl_join]
theorem m_join : Mt1 X "str" .sh "str.join" mJoin := by
  refine ⟨_, mt_join, fun ca c He H x y dx dy d Q rx ry e u q => ?_⟩
  have fin : ∀ (s : Str) (ss : List Str), okS s = true → (∀ t ∈ ss, okS t = true) → (ss.map fun s => (cl s).length).sum + ss.length * (cl s).length ≤ 16777216 → okS (⟨(joinL (cl s) (ss.map cl)).toArray⟩ : Str) = true := fun s ss h1 h2 h3 => by
    refine okS_of (fun n hn => ?_) (Nat.le_trans joinL_len (by rw [List.map_map, List.length_map]; exact h3))
    rcases joinL_mem hn with hn | ⟨w, hw, hn⟩
    · exact (okS_in h1).1 n hn
    · obtain ⟨t, ht, rfl⟩ := List.mem_map.mp hw
      exact (okS_in (h2 t ht)).1 n hn
  have len : ∀ ss : List Str, (ss.map fun s => (cl s).length) = ss.map (·.length) := fun ss => List.map_congr_left fun s _ => (len_cl s).symm
  unfold mJoin at e
  split at e
  · obtain ⟨ss, h1, h2⟩ := bind_some' e
    split at h2
    · rename_i hz
      cases h2
      obtain ⟨l, vs, e1, h3, r1⟩ := ry.list
      obtain ⟨e2, o2⟩ := r1.strs h1
      obtain ⟨e3, o3⟩ := rx.str
      refine ⟨_, l, ss, e3, by rw [e1], .inl (by rw [← e2]; exact .inl h3), by rw [← len, len_cl]; exact hz, ?_⟩
      rw [cl_join']
      exact q _ H (.str _ (fin _ _ o3 o2 hz)) (.refl H) u
    · cases h2
  · obtain ⟨ss, h1, h2⟩ := bind_some' e
    split at h2
    · rename_i hz
      cases h2
      obtain ⟨l, vs, e1, h3, r1⟩ := ry.tup
      obtain ⟨e2, o2⟩ := r1.strs h1
      obtain ⟨e3, o3⟩ := rx.str
      refine ⟨_, l, ss, e3, by rw [e1], .inr (by rw [← e2]; exact h3), by rw [← len, len_cl]; exact hz, ?_⟩
      rw [cl_join']
      exact q _ H (.str _ (fin _ _ o3 o2 hz)) (.refl H) u
    · cases h2
  · cases e
/-- x.count of one sign -/
def mCount : D → D → Option D
  | .str s, .str t => match cl t with
    | [n] => some (.int ((cl s).count n))
    | _ => none
  | _, _ => none
theorem cnt_count (c : Nat) : ∀ l : List Nat, PyProof.Rows.cnt c l = (l.count c : Int)
  | [] => rfl
  | n :: r => by
    rw [PyProof.Rows.cnt_cons, cnt_count c r, List.count_cons]
    by_cases h : n = c
    · simp [h]; omega
    · simp [h]
theorem ty_count : TyD "str" mCount := fun K ca H x dx dy d rx e => by
  unfold mCount at e
  split at e
  · rw [rx.str.1]; rfl
  · cases e
theorem m_count : Mt1 X "str" .sh "str.count" mCount := by
  refine ⟨_, mt_count, fun ca c He H x y dx dy d Q rx ry e u q => ?_⟩
  unfold mCount at e
  split at e
  · split at e
    · rename_i n hn
      cases e
      refine ⟨_, _, rx.str.1, by rw [ry.str.1], ?_⟩
      rw [sign_of hn, PyProof.Rows.count_cnt, cnt_count]
      exact q _ H (.int _) (.refl H) u
    · cases e
  · cases e
/-! ### max(a, b), min(a, b) -/
def oMax : D → D → Option D
  | .int a, .int b => some (.int (if b > a then b else a))
  | _, _ => none
def oMin : D → D → Option D
  | .int a, .int b => some (.int (if b < a then b else a))
  | _, _ => none
def Cb2 (X : Cx) (k : Kd) (v : Value) (g : D → D → Option D) : Prop := ∃ r : List V → Hp → VK → Prop, CallR X v r ∧
  ∀ (ca : Addr) (c : Cup) (He H : Hp) (x y : V) (dx dy d : D) (Q : VK), Rb X.K ca H x dx → Rb X.K ca H y dy → g dx dy = some d → CupAt ca c H →
    (∀ v H', RK X.K k He H H' v d → Sm ca H H' → CupAt ca c H' → Q v H') → r [x, y] H Q
theorem pd_b2 {gg : D → D → Option D} (h : Cb2 X kk (.builtin id) gg) (ha : PD X z a k fa) (hb : PD X z b k' fb) (hm : X.mg x = none) (hv : bootBuiltins x = some (.builtin id)) (hg : Gl X x := by rfl) (hs0 : starEach [a, b] X.env = (false, eval a X.env) :: starEach [b] X.env := by rfl) (hs1 : starEach [b] X.env = (false, eval b X.env) :: starEach [] X.env := by rfl)
    (hn : x ≠ "__name__" := by decide) (hdb : (x == ("__debug__" : Str)) = false := by decide) (hpl : (backTo pos (starEach [b] X.env)).any (·.1) = false := by rfl) : PD X z (.Call (.Name x p) [a, b] [] pos) kk (sOp gg fa fb) := by
  obtain ⟨r, h1, h2⟩ := h
  refine ⟨pe_imp (pe_callB h1 hg hm hv (pa_cons ha.pe (pa_cons hb.pe pa_nil hs1) hs0) hn hdb hs0 hpl) fun σ H Q w => ?_⟩
  exact tOp_of (r := fun x y H Q => r [x, y] H Q) h2 σ H Q w
theorem b2_max (hc : X.calm = true) : Cb2 X .sh (.builtin "max") oMax := by
  refine ⟨_, call_max2 hc, fun ca c He H x y dx dy d Q rx ry e u q => ?_⟩
  unfold oMax at e
  split at e
  · cases e
    exact ⟨_, _, by rw [rx.int, ry.int], q _ H (.int _) (.refl H) u⟩
  · cases e
theorem b2_min (hc : X.calm = true) : Cb2 X .sh (.builtin "min") oMin := by
  refine ⟨_, call_min2 hc, fun ca c He H x y dx dy d Q rx ry e u q => ?_⟩
  unfold oMin at e
  split at e
  · cases e
    exact ⟨_, _, by rw [rx.int, ry.int], q _ H (.int _) (.refl H) u⟩
  · cases e
/-! ### x op= e -/
def sAug (i : Nat) (gg : D → D → Option D) (f : SE) : SS := fun Γ c => (sVar i Γ c).bind fun q => (f Γ c).bind fun p => (gg q.1 p.1).map fun d => .nx (Γ.set i (some d)) p.2
theorem psd_aug {i : Nat} {op : Operator} {gg : D → D → Option D} {pos' : Pos} (hN : X.N.Nodup) (ho : Op2 X .sh (inplaceOp op) gg) (he : PD X z e k f) (hi : X.N[i]? = some x := by rfl) (hO : i ∉ z.O := by decide) (hc : z.cu ≠ some i := by decide) (hx : Loc X.env.scope x := by first | exact Or.inl rfl | exact Or.inr rfl)
    (hf : X.fn x = true ∨ X.env.scope.names.lookup x = some .local := by first | exact .inl rfl | exact .inr rfl) : PSd X z (.AugAssign (.Name x pos') op e pos) (sAug i gg f) := by
  obtain ⟨r, h1, h2⟩ := ho
  refine ⟨ps_imp (ps_aug hN hi hx he.pe h1 hf) fun Dn σ H ⟨ca, He, Γ, c, o, rl, e, q⟩ => ?_⟩
  obtain ⟨⟨d0, c0⟩, e0, e⟩ := bind_some' e
  obtain ⟨⟨d1, c1⟩, e1, e⟩ := bind_some' e
  obtain ⟨d2, e2, e3⟩ := Option.map_eq_some_iff.mp e
  cases e3
  obtain ⟨hg, rfl⟩ := sVar_some e0
  obtain ⟨v, hv, rv⟩ := rl.val i d0 hg hO
  refine ⟨v, hv, ca, He, Γ, _, d1, c1, rl, e1, fun y H1 ry s1 u1 => ?_⟩
  have rl1 := rl.mono s1 u1
  refine h2 ca c1 He H1 v y d0 d1 d2 _ (.inl (rv.mono (s1.fz rl.cup))) (ry.rb rl.hca rl.cup) e2 u1 fun w H2 rw' s2 u2 => ?_
  exact q _ H2 ((rl1.mono s2 u2).setV hO hc rw') ((s1.trans s2).fz rl.cup)
def oAddI : D → D → Option D
  | .int a, .int b => some (.int (a + b))
  | .str a, .str b => if (cl a).length + (cl b).length ≤ 16777216 then some (ps (cl a ++ cl b)) else none
  | _, _ => none
theorem i2_add : Op2 X .sh (inplaceOp .Add) oAddI := by
  refine ⟨_, OpR.or iop_add iop_add_str, fun ca c He H x y dx dy d Q rx ry e u q => ?_⟩
  unfold oAddI at e
  split at e
  · cases e
    exact .inl ⟨_, _, rx.int, ry.int, q _ H (.int _) (.refl H) u⟩
  · split at e
    · rename_i a b hz
      cases e
      obtain ⟨e1, o1⟩ := rx.str
      obtain ⟨e2, o2⟩ := ry.str
      refine .inr ⟨a, b, e1, e2, ?_, ?_⟩
      · rw [len_cl, len_cl, sizeLine_is]; exact hz
      · rw [str_app]
        refine q _ H (.str _ (okS_of (fun n hn => ?_) (by rw [List.length_append]; exact hz))) (.refl H) u
        rcases List.mem_append.mp hn with hn | hn
        · exact (okS_in o1).1 n hn
        · exact (okS_in o2).1 n hn
    · cases e
  · cases e
theorem i2_sub : Op2 X .sh (inplaceOp .Sub) oSub := by
  refine ⟨_, iop_sub, fun ca c He H x y dx dy d Q rx ry e u q => ?_⟩
  unfold oSub at e
  split at e
  · cases e
    exact ⟨_, _, rx.int, ry.int, q _ H (.int _) (.refl H) u⟩
  · cases e
end
end Wk
set_option Elab.async false
set_option linter.all false
set_option maxRecDepth 100000
set_option maxHeartbeats 1000000
namespace Wk
open PySem PySem.Spec PyProof.Rows L2
/-! ### arguments of several kinds; a, b = x, y -/
inductive RKs (K : PySem.W.Frag) (ca : Addr) (He : Hp) : List Kd → Hp → Hp → List V → List D → Prop
  | nil {H H' : Hp} : Sm ca H H' → RKs K ca He [] H H' [] []
  | cons {k : Kd} {ks : List Kd} {H H1 H' : Hp} {v : V} {vs : List V} {d : D} {ds : List D} : RK K k He H H1 v d → Sm ca H H1 → (∃ c, CupAt ca c H1) → Sm ca H1 H' → RKs K ca He ks H1 H' vs ds → RKs K ca He (k :: ks) H H' (v :: vs) (d :: ds)
def TAk (K : PySem.W.Frag) (z : Zs) (ks : List Kd) (f : SA) : TA := fun σ H Q => ∃ ca He Γ c ds c', Rel K z ca He Γ c σ H ∧ f Γ c = some (ds, c') ∧ ∀ vs H', RKs K ca He ks H H' vs ds → Sm ca H H' → CupAt ca c' H' → Q vs H'
structure PAk (X : Cx) (z : Zs) (es : List Expr) (ks : List Kd) (f : SA) : Prop where
  pa : PA X es (TAk X.K z ks f)
def setAll : List Nat → List D → Ev → Option Ev
  | [], [], Γ => some Γ
  | i :: is, d :: ds, Γ => setAll is ds (Γ.set i (some d))
  | _, _, _ => none
def sSets (is : List Nat) (g : SA) : SS := fun Γ c => (g Γ c).bind fun p => (setAll is p.1 Γ).map fun Γ' => .nx Γ' p.2
def setV : List Nat → List V → L2.St → L2.St
  | i :: is, v :: vs, σ => setV is vs (σ.set i (some v))
  | _, _, σ => σ
section
variable {X : Cx} {z : Zs} {e : Expr} {k : Kd} {f : SE} {g : SA} {pos : Pos} {es : List Expr} {ks : List Kd}
theorem pak_nil : PAk X z [] [] sNil := ⟨pa_imp pa_nil fun σ H Q ⟨ca, He, Γ, c, ds, c', r, e, q⟩ => by cases e; exact q _ H (.nil (.refl H)) (.refl H) r.cup⟩
theorem pak_cons (ha : PD X z e k f) (hr : PAk X z es ks g) (hs : starEach (e :: es) X.env = (false, eval e X.env) :: starEach es X.env := by rfl) : PAk X z (e :: es) (k :: ks) (sCons f g) :=
  ⟨pa_imp (pa_cons ha.pe hr.pa hs) fun σ H Q ⟨ca, He, Γ, c, ds, c', r, e, q⟩ => by
    obtain ⟨⟨d1, c1⟩, e1, e⟩ := bind_some' e
    obtain ⟨⟨d2, c2⟩, e2, e3⟩ := Option.map_eq_some_iff.mp e
    cases e3
    refine ⟨ca, He, Γ, c, d1, c1, r, e1, fun x H1 rx s1 u1 => ?_⟩
    refine ⟨ca, He, Γ, c1, d2, _, r.mono s1 u1, e2, fun xs H2 rs s2 u2 => ?_⟩
    exact q _ H2 (.cons rx s1 ⟨c1, u1⟩ s2 rs) (s1.trans s2) u2⟩
/-- each slot fits its kind -/
def Fits (z : Zs) : List Nat → List Kd → Prop
  | [], [] => True
  | i :: is, .sh :: ks => i ∉ z.O ∧ z.cu ≠ some i ∧ Fits z is ks
  | i :: is, .nw :: ks => (i ∈ z.O ∧ i ∉ z.T) ∧ z.cu ≠ some i ∧ Fits z is ks
  | _, _ => False
theorem Sm.some {ca b : Addr} {c : Cup} {H H' : Hp} (s : Sm ca H H') (u : CupAt ca c H') (h : H b ≠ none) : H' b ≠ none := fun e => h (s.was u e)
theorem sets_ok {K : PySem.W.Frag} {ca : Addr} {He : Hp} {c : Cup} : ∀ {is : List Nat} {ks : List Kd} {H H' : Hp} {vs : List V} {ds : List D} {Γ Γ' : Ev} {σ : L2.St}, RKs K ca He ks H H' vs ds → Fits z is ks → (∃ c0, CupAt ca c0 H) → Sm ca He H →
    (∀ j d, j ∈ z.O → Γ[j]? = some (some d) → ∃ b, σ[j]? = some (some (.ref b)) ∧ H b ≠ none) → Rel K z ca He Γ c σ H' → setAll is ds Γ = some Γ' → Rel K z ca He Γ' c (setV is vs σ) H' := by
  intro is
  induction is with
  | nil =>
    intro ks H H' vs ds Γ Γ' σ rks hf _ _ _ r e
    cases ks with
    | nil =>
      cases rks
      cases e
      exact r
    | cons k ks => exact hf.elim
  | cons i is ih =>
    intro ks H H' vs ds Γ Γ' σ rks hf ⟨c0, u0⟩ se own r e
    cases ks with
    | nil => exact hf.elim
    | cons k ks =>
      cases rks with
      | @cons _ _ _ H1 _ v vs d ds rk s0 hc1 s1 rest =>
        obtain ⟨c1, u1⟩ := hc1
        have e : setAll is ds (Γ.set i (some d)) = some Γ' := e
        show Rel K z ca He Γ' c (setV is vs (σ.set i (some v))) H'
        cases k with
        | sh =>
          obtain ⟨h1, h2, h3⟩ := hf
          have rk : R K H1 v d := rk
          refine ih rest h3 ⟨c1, u1⟩ (se.trans s0) (fun j d' hj hg => ?_) (r.setV h1 h2 (rk.mono (s1.fz u1))) e
          have nj : j ≠ i := fun z => h1 (z ▸ hj)
          rw [List.getElem?_set_ne (Ne.symm nj)] at hg ⊢
          obtain ⟨b, hb, hn⟩ := own j d' hj hg
          exact ⟨b, hb, s0.some u1 hn⟩
        | nw =>
          obtain ⟨⟨h1, hT⟩, h2, h3⟩ := hf
          obtain ⟨a, es, ws, rfl, rfl, n, hh, rr⟩ := rk
          have na : a ≠ ca := fun e => by rw [e, show H ca = _ from u0] at n; cases n
          refine ih rest h3 ⟨c1, u1⟩ (se.trans s0) (fun j d' hj hg => ?_) (r.setO h1 hT h2 (s1 _ _ na hh) (se.was u0 n) (rr.mono (s1.fz u1)) fun j d' hj nj hg hs => ?_) e
          · rcases get_set hg with ⟨rfl, _⟩ | ⟨nj, hg⟩
            · exact ⟨a, r.lt hg, by rw [hh]; simp⟩
            · rw [List.getElem?_set_ne (Ne.symm nj)]
              obtain ⟨b, hb, hn⟩ := own j d' hj hg
              exact ⟨b, hb, s0.some u1 hn⟩
          · obtain ⟨b, hb, hn⟩ := own j d' hj hg
            rw [hs] at hb
            cases hb
            exact hn n
        | fr => exact hf.elim
        | bo => exact hf.elim
theorem RKs.len {K : PySem.W.Frag} {ca : Addr} {He : Hp} : ∀ {ks : List Kd} {H H' : Hp} {vs : List V} {ds : List D}, RKs K ca He ks H H' vs ds → vs.length = ks.length
  | _, _, _, _, _, .nil _ => rfl
  | _, _, _, _, _, .cons _ _ _ _ r => congrArg (· + 1) r.len
theorem Fits.len : ∀ {is : List Nat} {ks : List Kd}, Fits z is ks → is.length = ks.length
  | [], [], _ => rfl
  | _ :: _, .sh :: _, h => congrArg (· + 1) (Fits.len h.2.2)
  | _ :: _, .nw :: _, h => congrArg (· + 1) (Fits.len h.2.2)
  | [], _ :: _, h => h.elim
  | _ :: _, [], h => h.elim
  | _ :: _, .fr :: _, h => h.elim
  | _ :: _, .bo :: _, h => h.elim
theorem TAk.mono {K : PySem.W.Frag} {σ : L2.St} {H : Hp} {Q Q' : List V → Hp → Prop} (h : TAk K z ks g σ H Q) (hq : ∀ vs H', Q vs H' → Q' vs H') : TAk K z ks g σ H Q' := by
  obtain ⟨ca, He, Γ, c, ds, c', r, e, q⟩ := h
  exact ⟨ca, He, Γ, c, ds, c', r, e, fun vs H' a b c => hq _ _ (q vs H' a b c)⟩
/-- what a parallel store does, by the slots -/
theorem psets_of {is : List Nat} {t : TS} {st : Stmt} (hp : PS X st t) (hta : ∀ (Dn : Ends) (σ : L2.St) (H : Hp), (TAk X.K z ks g σ H fun vs H1 => vs.length = is.length ∧ Dn.nx (setV is vs σ) H1) → t Dn σ H)
    (hf : Fits z is ks) : PSd X z st (sSets is g) :=
  ⟨ps_imp hp fun Dn σ H ⟨ca, He, Γ, c, o, r, e, q⟩ => by
    obtain ⟨⟨ds, c1⟩, e1, e⟩ := bind_some' e
    obtain ⟨Γ', e2, e3⟩ := Option.map_eq_some_iff.mp e
    cases e3
    refine hta Dn σ H ⟨ca, He, Γ, c, ds, c1, r, e1, fun vs H1 rs s1 u1 => ⟨by rw [rs.len, Fits.len hf], ?_⟩⟩
    refine q _ H1 (sets_ok rs hf ⟨c, r.cup⟩ r.sm (fun j d hj hg => ?_) (r.mono s1 u1) e2) (s1.fz r.cup)
    obtain ⟨b, _, e5, e6, _⟩ := r.any hg hj
    exact ⟨b, e5, by rw [e6]; simp⟩⟩
theorem psd_par2 {i j : Nat} {x y : Str} {a b : Expr} {px py pt : Pos} {kt k2 pt2} (hc : X.calm = true) (hN : X.N.Nodup) (ha : PAk X z [a, b] ks g) (hf : Fits z [i, j] ks) (hi : X.N[i]? = some x := by rfl) (hj : X.N[j]? = some y := by rfl) (hij : i ≠ j := by decide)
    (hx : X.env.scope.names.lookup x = some .local := by rfl) (hy : X.env.scope.names.lookup y = some .local := by rfl)
    (hw : swappedStores [.Tuple [.Name x px, .Name y py] kt pt] (.Tuple [a, b] k2 pt2) X.env = pure (some [x, y]) := by rfl)
    (hs : swapsWithSole [.Tuple [.Name x px, .Name y py] kt pt] (.Tuple [a, b] k2 pt2) pos.line X.env = pure false := by rfl) : PSd X z (.Assign [.Tuple [.Name x px, .Name y py] kt pt] (.Tuple [a, b] k2 pt2) pos) (sSets [i, j] g) :=
  psets_of (ps_par hc hN hi hj hij hx hy ha.pa hw hs) (fun Dn σ H h => h.mono fun vs H' ⟨hl, q⟩ => match vs, hl with
    | [v, w], _ => ⟨v, w, rfl, q⟩) hf
theorem psd_par3 {i j l : Nat} {x y w : Str} {a b c : Expr} {px py pw pt : Pos} {kt k2 pt2} (hc : X.calm = true) (hN : X.N.Nodup) (ha : PAk X z [a, b, c] ks g) (hf : Fits z [i, j, l] ks) (hi : X.N[i]? = some x := by rfl) (hj : X.N[j]? = some y := by rfl) (hl : X.N[l]? = some w := by rfl)
    (hij : i ≠ j := by decide) (hil : i ≠ l := by decide) (hjl : j ≠ l := by decide)
    (hx : X.env.scope.names.lookup x = some .local := by rfl) (hy : X.env.scope.names.lookup y = some .local := by rfl) (hz : X.env.scope.names.lookup w = some .local := by rfl)
    (hw : swappedStores [.Tuple [.Name x px, .Name y py, .Name w pw] kt pt] (.Tuple [a, b, c] k2 pt2) X.env = pure (some [x, y, w]) := by rfl)
    (hs : swapsWithSole [.Tuple [.Name x px, .Name y py, .Name w pw] kt pt] (.Tuple [a, b, c] k2 pt2) pos.line X.env = pure false := by rfl) : PSd X z (.Assign [.Tuple [.Name x px, .Name y py, .Name w pw] kt pt] (.Tuple [a, b, c] k2 pt2) pos) (sSets [i, j, l] g) :=
  psets_of (ps_par3 hc hN hi hj hl hij hil hjl hx hy hz ha.pa hw hs) (fun Dn σ H h => h.mono fun vs H' ⟨hl, q⟩ => match vs, hl with
    | [v, w, u], _ => ⟨v, w, u, rfl, q⟩) hf
/-- the names to be stored, one after another -/
inductive Nms (X : Cx) : List Expr → List Nat → Prop
  | nil : Nms X [] []
  | cons {x : Str} {pos : Pos} {es : List Expr} {i : Nat} {is : List Nat} : PG X (.Name x pos) (gName i) → ((assignEach (.Name x pos :: es) X.env).map (·.2) = assign (.Name x pos) X.env :: (assignEach es X.env).map (·.2)) → Nms X es is → Nms X (.Name x pos :: es) (i :: is)
def gAll : List Nat → L2.TGs
  | [] => gNil
  | i :: is => gCons (gName i) (gAll is)
theorem Nms.pgs : ∀ {es : List Expr} {is : List Nat}, Nms X es is → L2.PGs X es (gAll is)
  | _, _, .nil => pgs_nil
  | _, _, .cons h hs t => pgs_cons h t.pgs hs
theorem gAll_set : ∀ {is : List Nat} {vs : List V} {σ : L2.St} {H : Hp} {Q : L2.St → Hp → Prop}, vs.length = is.length → Q (setV is vs σ) H → gAll is vs σ H Q
  | [], [], _, _, _, _, q => ⟨rfl, q⟩
  | i :: is, v :: vs, σ, H, Q, h, q => ⟨v, vs, rfl, gAll_set (Nat.succ.inj h) q⟩
/-- several names, the tuple laid first -/
theorem psd_many {tgs : List Expr} {is : List Nat} {kt k2} {pt pt2 : Pos} (hc : X.calm = true) (ha : PAk X z es ks g) (hf : Fits z is ks) (hn : Nms X tgs is) (hl : is.length ≤ 1000 := by decide)
    (hnn : (assignEach tgs X.env).length = is.length := by rfl) (hst : (assignEach tgs X.env).findIdx? (·.1) = none := by rfl)
    (hs : swapsWithSole [.Tuple tgs kt pt] (.Tuple es k2 pt2) pos.line X.env = pure false := by rfl) (hw : swappedStores [.Tuple tgs kt pt] (.Tuple es k2 pt2) X.env = pure none := by rfl)
    (h1 : (assignEach [.Tuple tgs kt pt] X.env).map (·.2) = [assign (.Tuple tgs kt pt) X.env] := by rfl) : PSd X z (.Assign [.Tuple tgs kt pt] (.Tuple es k2 pt2) pos) (sSets is g) := by
  refine ⟨ps_imp (ps_asg (pe_tup ha.pa) (pg_tup hc hn.pgs hnn hst) hs hw h1) fun Dn σ H ⟨ca, He, Γ, c, o, r, e, q⟩ => ?_⟩
  obtain ⟨⟨ds, c1⟩, e1, e⟩ := bind_some' e
  obtain ⟨Γ', e2, e3⟩ := Option.map_eq_some_iff.mp e
  cases e3
  refine ⟨ca, He, Γ, c, ds, c1, r, e1, fun vs H1 rs s1 u1 => ?_⟩
  have hvl : vs.length = is.length := by rw [rs.len, Fits.len hf]
  refine ⟨Nat.le_trans (by omega) (Nat.le_of_lt (small1000 (Nat.le_refl _))), fun p hp => ?_⟩
  refine ⟨p, vs, rfl, .inl (.inl upd_same), hvl, gAll_set hvl ?_⟩
  have s2 : Sm ca H1 (upd H1 p (.tup vs)) := .new hp
  have rs2 : RKs X.K ca He ks H (upd H1 p (.tup vs)) vs ds := by
    have go : ∀ {ks : List Kd} {H H1 H2 : Hp} {vs : List V} {ds : List D}, RKs X.K ca He ks H H1 vs ds → Sm ca H1 H2 → RKs X.K ca He ks H H2 vs ds := by
      intro ks
      induction ks with
      | nil => intro H H1 H2 vs ds h s; cases h with | nil h => exact .nil (h.trans s)
      | cons k ks ih =>
        intro H H1 H2 vs ds h s
        cases h with
        | cons rk s0 hc s1 rest => exact .cons rk s0 hc (s1.trans s) (ih rest s)
    exact go rs s2
  refine q _ _ (sets_ok rs2 hf ⟨c, r.cup⟩ r.sm (fun j d hj hg => ?_) ((r.mono s1 u1).mono s2 (u1.new hp)) e2) ((s1.trans s2).fz r.cup)
  obtain ⟨b, _, e5, e6, _⟩ := r.any hg hj
  exact ⟨b, e5, by rw [e6]; simp⟩
end
/-! ### a, b = a tuple -/
def sUnp (is : List Nat) (f : SE) : SS := fun Γ c => (f Γ c).bind fun p => match p.1 with
  | .tuple ds => if ds.length = is.length then (setAll is ds Γ).map fun Γ' => .nx Γ' p.2 else none
  | _ => none
section
variable {X : Cx} {z : Zs} {e : Expr} {f : SE} {pos : Pos}
theorem sets_sh {K : PySem.W.Frag} {ca : Addr} {He : Hp} {c : Cup} {H : Hp} : ∀ {is : List Nat} {vs : List V} {ds : List D} {Γ Γ' : Ev} {σ : L2.St}, Rs K H vs ds → (∀ i ∈ is, i ∉ z.O ∧ z.cu ≠ some i) → Rel K z ca He Γ c σ H → setAll is ds Γ = some Γ' → Rel K z ca He Γ' c (setV is vs σ) H := by
  intro is
  induction is with
  | nil =>
    intro vs ds Γ Γ' σ rs hf r e
    cases rs with
    | nil => cases e; exact r
    | cons _ _ => cases e
  | cons i is ih =>
    intro vs ds Γ Γ' σ rs hf r e
    cases rs with
    | nil => cases e
    | cons h t => exact ih t (fun j hj => hf j (List.mem_cons_of_mem _ hj)) (r.setV (hf i List.mem_cons_self).1 (hf i List.mem_cons_self).2 h) e
theorem psd_unp {tgs : List Expr} {is : List Nat} {kt} {pt : Pos} (hc : X.calm = true) (he : PD X z e .sh f) (hn : Nms X tgs is) (hf : ∀ i ∈ is, i ∉ z.O ∧ z.cu ≠ some i := by decide)
    (hnn : (assignEach tgs X.env).length = is.length := by rfl) (hst : (assignEach tgs X.env).findIdx? (·.1) = none := by rfl)
    (hs : swapsWithSole [.Tuple tgs kt pt] e pos.line X.env = pure false := by rfl) (hw : swappedStores [.Tuple tgs kt pt] e X.env = pure none := by rfl)
    (h1 : (assignEach [.Tuple tgs kt pt] X.env).map (·.2) = [assign (.Tuple tgs kt pt) X.env] := by rfl) : PSd X z (.Assign [.Tuple tgs kt pt] e pos) (sUnp is f) := by
  refine ⟨ps_imp (ps_asg he.pe (pg_tup hc hn.pgs hnn hst) hs hw h1) fun Dn σ H ⟨ca, He, Γ, c, o, r, e, q⟩ => ?_⟩
  obtain ⟨⟨d1, c1⟩, e1, e⟩ := bind_some' e
  refine ⟨ca, He, Γ, c, d1, c1, r, e1, fun v H1 rv s1 u1 => ?_⟩
  simp only at e
  split at e
  · split at e
    · rename_i hl
      obtain ⟨Γ', e2, e3⟩ := Option.map_eq_some_iff.mp e
      cases e3
      cases (show R X.K H1 v _ from rv) with
      | tup ht rr =>
        have hvl := rr.len.trans hl
        exact ⟨_, _, rfl, ht, hvl, gAll_set hvl (q _ H1 (sets_sh rr hf (r.mono s1 u1) e2) (s1.fz r.cup))⟩
    · cases e
  · cases e
end
/-! ### a def -/
def env0 (cu : Bool) (m : Nat) (ds : List D) : Ev := (if cu then .none :: ds.map some else ds.map some) ++ List.replicate m .none
def runD (cu : Bool) (m : Nat) (b : SS) : List D → Cup → Option (D × Cup) := fun ds c => (b (env0 cu m ds) c).bind fun o => match o with
  | .rt d c' => some (d, c')
  | .nx _ c' => some (.none, c')
  | _ => none
theorem rep_none {m j : Nat} {d : D} (h : (List.replicate m (none : Option D))[j]? = some (some d)) : False := by
  rw [List.getElem?_replicate] at h
  split at h <;> cases h
theorem ok_def {P : Program} {w : World} {K : PySem.W.Frag} {mg : Str → Option Value} {base : Heap} {x qual : Str} {st : Stmt} {f : Addr} {fd : FuncData} {N ps : List Str} {k n m : Nat} {cu : Bool} {z : Zs} {b : SS} (F : Fun K x qual st f fd) (S : FnScope N ps (defScope st))
    (hb : ∀ (cdv : Value) (A : Around) (outer : List Env) (s : Shared) (H : Hp) (E : XK), Room k (A.deeper (envOfC qual (defScope st) s.heap.objs.size f cdv)) → PBd (cxOf CX0 P w K mg base N qual (defScope st) f cdv A outer s H E).nox z (defBody st) b)
    (hps : ps.length = n + (if cu then 1 else 0) := by rfl) (hm : N.length = ps.length + m := by rfl) (hz : z.cu = if cu then some 0 else none := by rfl) (hO : ∀ i ∈ z.O, ps.length ≤ i := by decide) :
    FnOk P w K mg base CX0 (k + 1) f fd ps (spOf K n cu (runD cu m b)) := by
  have hlen : ∀ vs H Q E, spOf K n cu (runD cu m b) vs H Q E → vs.length = ps.length := fun vs H Q E ⟨ca, c, ds, ws, d, c', u, r, hl, hv, _⟩ => by
    rw [hps, hv]
    have := r.len
    cases cu
    · simp; omega
    · simp; omega
  refine F.ok S hlen fun cdv A outer s H vs Q E hr h => ?_
  have hvl := hlen vs H Q E h
  obtain ⟨ca, c, ds, ws, d, c', u, r, hl, hv, e, q⟩ := h
  refine ⟨_, (hb cdv A outer s H E hr).pb, ?_⟩
  obtain ⟨o, e1, e2⟩ := bind_some' e
  have wl := r.len
  have glen : (L2.start N vs).length = (env0 cu m ds).length := by
    unfold L2.start env0
    rw [List.length_append, List.length_append, List.length_map, List.length_replicate, List.length_replicate, hvl]
    cases cu
    · simp at hps ⊢; omega
    · simp at hps ⊢; omega
  have get : ∀ i d, (env0 cu m ds)[i]? = some (some d) → ∃ v, (L2.start N vs)[i]? = some (some v) ∧ R K H v d := fun i d hi => by
    unfold env0 at hi
    unfold L2.start
    have hlt : i < (if cu then (.none : Option D) :: ds.map some else ds.map some).length := by
      by_cases hh : i < (if cu then (.none : Option D) :: ds.map some else ds.map some).length
      · exact hh
      · rw [List.getElem?_append_right (by omega)] at hi
        exact (rep_none hi).elim
    rw [List.getElem?_append_left hlt] at hi
    subst hv
    cases cu with
    | false =>
      simp only [Bool.false_eq_true, if_false] at hi hlt ⊢
      rw [List.getElem?_map] at hi
      obtain ⟨d', h1, h2⟩ := Option.map_eq_some_iff.mp hi
      cases h2
      obtain ⟨v, h3, h4⟩ := r.get h1
      refine ⟨v, ?_, h4⟩
      rw [List.getElem?_append_left (by simpa [wl] using hlt), List.getElem?_map, h3]
      rfl
    | true =>
      simp only [if_true] at hi hlt ⊢
      cases i with
      | zero => cases hi
      | succ i =>
        rw [List.getElem?_cons_succ, List.getElem?_map] at hi
        obtain ⟨d', h1, h2⟩ := Option.map_eq_some_iff.mp hi
        cases h2
        obtain ⟨v, h3, h4⟩ := r.get h1
        refine ⟨v, ?_, h4⟩
        rw [List.getElem?_append_left (by simpa [wl] using hlt), List.map_cons, List.getElem?_cons_succ, List.getElem?_map, h3]
        rfl
  have own0 : ∀ i d, (env0 cu m ds)[i]? = some (some d) → i ∉ z.O := fun i d hi hio => by
    have h1 := hO i hio
    unfold env0 at hi
    rw [List.getElem?_append_right (by
      cases cu
      · simp at hps ⊢; omega
      · simp at hps ⊢; omega)] at hi
    exact rep_none hi
  refine ⟨ca, H, _, c, o, ⟨u, .refl H, by rw [show H ca = _ from u]; simp, fun i hi => ?_, fun i d hi _ => get i d hi, fun i d hi hio _ => absurd hio (own0 i d hi), fun i d hi hio _ => absurd hio (own0 i d hi), fun i j a d e hi hj ne h1 => absurd hi (own0 i d h1), glen⟩, e1, ?_⟩
  · rw [hz] at hi
    cases cu with
    | false => cases hi
    | true =>
      cases hi
      subst hv
      rfl
  · cases o with
    | nx Γ c1 => cases e2; exact fun σ1 H1 r1 _ => q _ H1 .non r1.sm r1.cup
    | rt d1 c1 => cases e2; exact fun v H1 rv s1 u1 => q v H1 rv s1 u1
    | bk Γ c1 => cases e2
    | ct Γ c1 => cases e2
end Wk
set_option Elab.async false
set_option linter.all false
set_option maxRecDepth 100000
set_option maxHeartbeats 1000000
namespace Wk
open PySem PySem.Spec PyProof.Rows L2
theorem u65 {k : Nat} {A : Around} (hr : Room k A) : A.units + 65 < cLine := by have := hr.un; omega
theorem ok_zero {P : Program} {w : World} {K : PySem.W.Frag} {mg : Str → Option Value} {base : Heap} {k : Nat} {f : Addr} {fd : FuncData} {ps : List Str} {n : Nat} {cu : Bool} : FnOk P w K mg base CX0 k f fd ps (spOf K n cu fun _ _ => none) := by
  refine ⟨fun vs H Q E h => ?_, fun A outer s H args us vs Q E hr he hb hv h => ?_⟩
  · obtain ⟨_, _, _, _, _, _, _, _, _, _, e, _⟩ := h
    cases e
  · obtain ⟨_, _, _, _, _, _, _, _, _, _, e, _⟩ := h
    cases e
theorem blkOk_in {N : List Str} {sc scope scope' : Scope} {own : List (Str × Nat)} (h : blkC N (relS scope' sc) scope own = true) : BlkOk N (relS scope' sc) scope own := blkOk_by h
/-! ### a list comprehension stored at once -/
section
variable {X : Cx} {z : Zs} {tg elt iter : Expr} {ifs : List Expr} {scope : Scope} {own : List (Str × Nat)} {is : List Nat} {src : SA} {g : STg} {cd : STst} {f : SE} {pos spos py : Pos} {y : Str} {i : Nat}
theorem psd_setLcO (hc : X.calm = true) (hN : X.N.Nodup) (ok : BlkOk X.N X.env.scope scope own) (hi : PId X z KS tg iter src)
    (hg : ∀ (s : Shared) (H : Hp) (C : Addr) (cl : List (Str × Addr)) (fp : List Addr), PGd (X.blk s H scope (compEnvC scope cl C X.env) fp) z tg is g)
    (ht : ∀ (s : Shared) (H : Hp) (C : Addr) (cl : List (Str × Addr)) (fp : List Addr), PTds (X.blk s H scope (compEnvC scope cl C X.env) fp) z ifs cd)
    (he : ∀ (s : Shared) (H : Hp) (C : Addr) (cl : List (Str × Addr)) (fp : List Addr), PD (X.blk s H scope (compEnvC scope cl C X.env) fp) z elt .sh f)
    (hcu : CuOk z (own.map (·.2)) = true) (his : ∀ i ∈ is, i ∈ own.map (·.2))
    (hy : X.N[i]? = some y := by rfl) (hO : i ∈ z.O := by decide) (hT : i ∉ z.T := by decide) (hcz : z.cu ≠ some i := by decide) (hyl : X.env.scope.names.lookup y = some .local := by rfl)
    (hsw : swapsWith (.ListComp elt [⟨tg, iter, ifs, 0⟩] scope pos) (some (.Name y py)) spos.line X.env = pure true := by exact sw_true rfl rfl rfl (by decide +kernel))
    (hs : ∀ x, foldedSetIterable iter X.env x = pure x := by intro _; rfl) : PSd X z (.Assign [.Name y py] (.ListComp elt [⟨tg, iter, ifs, 0⟩] scope pos) spos) (sSet i (sComp (own.map (·.2)) src g cd f)) :=
  ⟨ps_imp (ps_setLc hc hN hy hyl hsw hi.pi ok (fun s H C cl fp => (hg s H C cl fp).pg) (fun s H C cl fp => (ht s H C cl fp).pt) (fun s H C cl fp => (he s H C cl fp).pe) hs) fun Dn σ H ⟨ca, He, Γ, c, o, r, e, q⟩ => by
    obtain ⟨⟨d1, c1⟩, e1, e2⟩ := Option.map_eq_some_iff.mp e
    cases e2
    refine tLc_of (CuOk.ok hcu) his σ H _ ⟨ca, He, Γ, c, d1, c1, r, e1, fun v H1 rv s1 u1 => ?_⟩
    obtain ⟨a, ds, vs, rfl, rfl, n, hh, rr⟩ := rv
    refine q _ H1 ((r.mono s1 u1).setO hO hT hcz hh (r.sm.was r.cup n) rr fun j d hj nj hg hs => ?_) ?_
    · obtain ⟨b, _, e2, e3, _⟩ := r.any hg hj
      rw [e2] at hs
      cases hs
      rw [n] at e3
      cases e3
    · exact s1.fz r.cup⟩
/-- frozen at once: a rule for a statement, through a lock behind it -/
theorem ps_lockAfter {st : Stmt} {t : TS} (h : PS X st t) : PS X st (fun Dn σ H => t { Dn with nx := fun σ' H' => (∃ a xs, H' a = some (.lst xs) ∧ ∀ od, Dn.nx σ' (upd H' a (.frz od (.lst xs)))) } σ H) := by
  refine ⟨fun pins s σ H Dn I w => ?_⟩
  refine thn (h.run pins s σ H _ I w) fun fl s1 q => ?_
  cases fl with
  | next =>
    obtain ⟨σ1, H1, I1, a, xs, hh, q⟩ := q
    obtain ⟨od, I2⟩ := I1.lock hh (show Mut (some (.lst xs)) from trivial)
    exact ⟨σ1, _, I2, q od⟩
  | ret v => exact q
  | brk => exact q
  | cont => exact q
theorem psd_setLc (hc : X.calm = true) (hN : X.N.Nodup) (ok : BlkOk X.N X.env.scope scope own) (hi : PId X z KS tg iter src)
    (hg : ∀ (s : Shared) (H : Hp) (C : Addr) (cl : List (Str × Addr)) (fp : List Addr), PGd (X.blk s H scope (compEnvC scope cl C X.env) fp) z tg is g)
    (ht : ∀ (s : Shared) (H : Hp) (C : Addr) (cl : List (Str × Addr)) (fp : List Addr), PTds (X.blk s H scope (compEnvC scope cl C X.env) fp) z ifs cd)
    (he : ∀ (s : Shared) (H : Hp) (C : Addr) (cl : List (Str × Addr)) (fp : List Addr), PD (X.blk s H scope (compEnvC scope cl C X.env) fp) z elt .sh f)
    (hcu : CuOk z (own.map (·.2)) = true) (his : ∀ i ∈ is, i ∈ own.map (·.2))
    (hy : X.N[i]? = some y := by rfl) (hO : i ∉ z.O := by decide) (hcz : z.cu ≠ some i := by decide) (hyl : X.env.scope.names.lookup y = some .local := by rfl)
    (hsw : swapsWith (.ListComp elt [⟨tg, iter, ifs, 0⟩] scope pos) (some (.Name y py)) spos.line X.env = pure true := by exact sw_true rfl rfl rfl (by decide +kernel))
    (hs : ∀ x, foldedSetIterable iter X.env x = pure x := by intro _; rfl) : PSd X z (.Assign [.Name y py] (.ListComp elt [⟨tg, iter, ifs, 0⟩] scope pos) spos) (sSet i (sComp (own.map (·.2)) src g cd f)) :=
  ⟨ps_imp (ps_lockAfter (ps_setLc hc hN hy hyl hsw hi.pi ok (fun s H C cl fp => (hg s H C cl fp).pg) (fun s H C cl fp => (ht s H C cl fp).pt) (fun s H C cl fp => (he s H C cl fp).pe) hs)) fun Dn σ H ⟨ca, He, Γ, c, o, r, e, q⟩ => by
    obtain ⟨⟨d1, c1⟩, e1, e2⟩ := Option.map_eq_some_iff.mp e
    cases e2
    refine tLc_of (CuOk.ok hcu) his σ H _ ⟨ca, He, Γ, c, d1, c1, r, e1, fun v H1 rv s1 u1 => ?_⟩
    obtain ⟨a, ds, vs, rfl, rfl, n, hh, rr⟩ := rv
    refine ⟨a, vs, hh, fun od => ?_⟩
    have na : a ≠ ca := fun e => by rw [e, show H ca = _ from r.cup] at n; cases n
    have fz : Fz H1 (upd H1 a (.frz od (.lst vs))) := fun b o hb fo => by
      rw [upd_ne]
      · exact hb
      · rintro rfl
        rw [hh] at hb
        cases hb
        exact fo
    have s2 : Sm ca H (upd H1 a (.frz od (.lst vs))) := fun b o nb hb => by
      rw [upd_ne (fun e => by rw [e, n] at hb; cases hb)]
      exact s1 b o nb hb
    have u2 : CupAt ca c1 (upd H1 a (.frz od (.lst vs))) := by
      show upd _ _ _ ca = _
      rw [upd_ne na.symm]
      exact u1
    exact q _ _ ((r.mono s2 u2).setV hO hcz (.lst ⟨od, upd_same⟩ (rr.mono fz))) (s2.fz r.cup)⟩
end
/-! ### min, max, sum -/
theorem Rs.zip {K : PySem.W.Frag} {H : Hp} : ∀ {xs : List V} {ds : List D}, Rs K H xs ds → ∀ p ∈ xs.zip ds, R K H p.1 p.2
  | _, _, .nil, p, h => by cases h
  | _, _, .cons r rr, p, h => by
    rw [List.zip_cons_cons] at h
    rcases List.mem_cons.mp h with rfl | h
    · exact r
    · exact rr.zip p h
def okAl (ds : List D) : Bool := ds.all (fun d => ds.all fun d' => PySem.W.alike d d') && ds.all (fun d => match d with | .none => false | _ => true) && decide (PyData.depthAll ds ≤ 60)
/-- the least of alike data (numbers by themselves) -/
def minG (ds : List D) : Option D := match intsOf ds with
  | some ns => match ns with
    | n :: r => some (.int (r.foldl min n))
    | [] => none
  | none => match ds with
    | x :: r => if okAl (x :: r) then some (PySem.W.minD x r) else none
    | [] => none
def maxG (ds : List D) : Option D := match intsOf ds with
  | some ns => match ns with
    | n :: r => some (.int (r.foldl max n))
    | [] => none
  | none => match ds with
    | x :: r => if okAl (x :: r) then some (PySem.W.maxD x r) else none
    | [] => none
def bMin (d : D) : Option D := match d with
  | .list ds => minG ds
  | .tuple ds => minG ds
  | _ => none
def bMax (d : D) : Option D := match d with
  | .list ds => maxG ds
  | .tuple ds => maxG ds
  | _ => none
def bSum (d : D) : Option D := match d with
  | .list ds => (intsOf ds).map fun ns => .int ns.sum
  | .tuple ds => (intsOf ds).map fun ns => .int ns.sum
  | _ => none
def rSumT (K : PySem.W.Frag) : List V → Hp → VK → Prop := fun vs H Q => ∃ (a : Addr) (ns : List Int), vs = [V.ref a] ∧ SqT K H a (ns.map V.int) ∧ Q (.int ns.sum) H
theorem cr_sumT {X : Cx} (hc : X.calm = true) : CallR X (.builtin "sum") (rSumT X.K) := by
  intro pins s σ H vs us Q I r h
  obtain ⟨a, ns, rfl, hs, q⟩ := h
  obtain ⟨its, rv, hl, _⟩ := I.tuple hs
  rw [Vals.ref1 r]
  have hi := rv.ints
  have hl' : s.heap.IsTuple a its.toArray := hl
  obtain ⟨xs, hx⟩ := hi.allInts.items
  have hn : numsOf its.toArray.toList = ns := by rw [show its.toArray.toList = its from rfl, hi.numsOf]
  rw [hx] at hl' hn
  rw [nums_intItems] at hn
  refine PySem.W.ktm_sumG (I.ok.hd hc) hl' fun h' tk t' hk => ?_
  rw [preSum_eq, List.take_of_length_le (by simp), hn]
  exact ⟨.int _, H, I.kept hk, ⟨_, rfl⟩, q⟩
theorem intsOf_map : ∀ {ds : List D} {ns : List Int}, intsOf ds = some ns → ds = ns.map PyData.int
  | [], _, h => by cases h; rfl
  | d :: ds, ns, h => by
    cases d <;> first
      | (obtain ⟨ns', h1, h2⟩ := Option.map_eq_some_iff.mp h
         cases h2
         rw [intsOf_map h1]
         rfl)
      | cases h
theorem foldl_min_spec (n : Int) : ∀ (r : List Int), (r.foldl min n) ∈ n :: r ∧ ∀ y ∈ n :: r, r.foldl min n ≤ y
  | [] => by simp
  | k :: r => by
    obtain ⟨h1, h2⟩ := foldl_min_spec (min n k) r
    rw [List.foldl_cons]
    refine ⟨?_, fun y hy => ?_⟩
    · rcases List.mem_cons.mp h1 with e | h
      · rw [e]
        by_cases hk : n ≤ k
        · rw [Int.min_eq_left hk]; simp
        · rw [Int.min_eq_right (by omega)]; simp
      · simp [h]
    · have hm := h2 _ List.mem_cons_self
      rcases List.mem_cons.mp hy with e | h
      · rw [e]; omega
      · rcases List.mem_cons.mp h with e | h
        · rw [e]; omega
        · exact h2 y (List.mem_cons_of_mem _ h)
theorem foldl_max_spec (n : Int) : ∀ (r : List Int), (r.foldl max n) ∈ n :: r ∧ ∀ y ∈ n :: r, y ≤ r.foldl max n
  | [] => by simp
  | k :: r => by
    obtain ⟨h1, h2⟩ := foldl_max_spec (max n k) r
    rw [List.foldl_cons]
    refine ⟨?_, fun y hy => ?_⟩
    · rcases List.mem_cons.mp h1 with e | h
      · rw [e]
        by_cases hk : n ≤ k
        · rw [Int.max_eq_right hk]; simp
        · rw [Int.max_eq_left (by omega)]; simp
      · simp [h]
    · have hm := h2 _ List.mem_cons_self
      rcases List.mem_cons.mp hy with e | h
      · rw [e]; omega
      · rcases List.mem_cons.mp h with e | h
        · rw [e]; omega
        · exact h2 y (List.mem_cons_of_mem _ h)
theorem alike_ints (ns : List Int) : PySem.W.AlikeAll (ns.map PyData.int) := by
  refine ⟨fun x hx y hy => ?_, fun x hx => ?_⟩
  · obtain ⟨i, _, rfl⟩ := List.mem_map.mp hx
    obtain ⟨j, _, rfl⟩ := List.mem_map.mp hy
    rfl
  · obtain ⟨i, _, rfl⟩ := List.mem_map.mp hx
    exact fun h => nomatch h
theorem depth_ints : ∀ ns : List Int, PyData.depthAll (ns.map PyData.int) = 0
  | [] => rfl
  | n :: r => by
    show max 0 (PyData.depthAll (r.map PyData.int)) = 0
    rw [depth_ints r]
    rfl
section
variable {X : Cx}
theorem call_minT (hc : X.calm = true) (hu : X.A.units + 65 < cLine) : CallR X (.builtin "min") (fun xs H Q => ∃ (a : Addr) (n : Int) (r : List Int), xs = [.ref a] ∧ SqT X.K H a ((n :: r).map V.int) ∧ Q (.int (r.foldl min n)) H) := by
  intro pins s σ H xs us Q I rx h
  obtain ⟨a, n, r, rfl, ht, q⟩ := h
  obtain ⟨its, rv, hl, _⟩ := I.tuple ht
  rw [Vals.ref1 rx]
  obtain ⟨as, hr⟩ := Dp.readsAll I ((n :: r).map PyData.int) ((n :: r).map V.int) its (by
    have : ∀ l : List Int, DpAll X.K H (l.map V.int) (l.map PyData.int) := fun l => by
      induction l with
      | nil => exact .nil
      | cons x l ih => exact .cons (.int x) ih
    exact this _) rv
  refine PySem.W.min_tuple_data (vs := its.toArray) (x := .int n) (xs := r.map PyData.int) (I.ok.hd hc) hl (by simpa using hr) (alike_ints (n :: r)) (by have := depth_ints (n :: r); rw [show (PyData.int n :: r.map PyData.int) = (n :: r).map PyData.int from rfl, this]; omega) fun i v h' tk bs hi hrd hk => ?_
  rw [PySem.W.minD_ints] at hrd
  cases hrd
  exact ⟨.int _, H, I.kept hk, ⟨_, rfl⟩, q⟩
theorem call_maxT (hc : X.calm = true) (hu : X.A.units + 65 < cLine) : CallR X (.builtin "max") (fun xs H Q => ∃ (a : Addr) (n : Int) (r : List Int), xs = [.ref a] ∧ SqT X.K H a ((n :: r).map V.int) ∧ Q (.int (r.foldl max n)) H) := by
  intro pins s σ H xs us Q I rx h
  obtain ⟨a, n, r, rfl, ht, q⟩ := h
  obtain ⟨its, rv, hl, _⟩ := I.tuple ht
  rw [Vals.ref1 rx]
  obtain ⟨as, hr⟩ := Dp.readsAll I ((n :: r).map PyData.int) ((n :: r).map V.int) its (by
    have : ∀ l : List Int, DpAll X.K H (l.map V.int) (l.map PyData.int) := fun l => by
      induction l with
      | nil => exact .nil
      | cons x l ih => exact .cons (.int x) ih
    exact this _) rv
  refine PySem.W.max_tuple_data (vs := its.toArray) (x := .int n) (xs := r.map PyData.int) (I.ok.hd hc) hl (by simpa using hr) (alike_ints (n :: r)) (by have := depth_ints (n :: r); rw [show (PyData.int n :: r.map PyData.int) = (n :: r).map PyData.int from rfl, this]; omega) fun i v h' tk bs hi hrd hk => ?_
  rw [PySem.W.maxD_ints] at hrd
  cases hrd
  exact ⟨.int _, H, I.kept hk, ⟨_, rfl⟩, q⟩
theorem okAl_spec {ds : List D} (h : okAl ds = true) : PySem.W.AlikeAll ds ∧ PyData.depthAll ds ≤ 60 := by
  unfold okAl at h
  simp only [Bool.and_eq_true, List.all_eq_true, decide_eq_true_eq] at h
  obtain ⟨⟨h1, h2⟩, h3⟩ := h
  refine ⟨⟨fun x hx y hy => h1 x hx y hy, fun x hx e => ?_⟩, h3⟩
  have := h2 x hx
  rw [e] at this
  cases this
def rMinG (K : PySem.W.Frag) (m : D → List D → D) : List V → Hp → VK → Prop := fun vs H Q => ∃ (a : Addr) (xs : List V) (x : D) (r : List D), vs = [.ref a] ∧ (SqL K H a xs ∨ SqT K H a xs) ∧ Rs K H xs (x :: r) ∧ okAl (x :: r) = true ∧ ∀ v, R K H v (m x r) → Q v H
theorem pick_R {K : PySem.W.Frag} {H : Hp} {h h' : Heap} {ds : List D} {xs : List V} {its : List Value} {as bs : List Addr} {i : Nat} {u : Value} {d : D} (rr : Rs K H xs ds) (rv : Vals xs its) (ra : ReadsAll h its ds as) (hi : its[i]? = some u) (hd : Reads h' u d bs) (hk : ∀ b o, h.get? b = some o → h'.get? b = some o) : ∃ v, RelV v u ∧ R K H v d := by
  obtain ⟨bs2, h1, h2, h3, _⟩ := PySem.W.readsAll_at ra i u hi
  have hlen : xs.length = ds.length := rr.len
  have hx : i < xs.length := by omega
  obtain ⟨u', e1, r1⟩ := rv.get (List.getElem?_eq_getElem hx)
  rw [hi] at e1
  cases e1
  have hz : (xs[i], ds.getD i .none) ∈ xs.zip ds := by
    refine List.mem_of_getElem? (i := i) ?_
    rw [List.getElem?_zip_eq_some]
    refine ⟨List.getElem?_eq_getElem hx, ?_⟩
    rw [List.getElem?_eq_getElem h2, List.getD_eq_getElem?_getD, List.getElem?_eq_getElem h2]
    rfl
  have e := (Reads.unique (PySem.W.reads_keeps hk h1) _ _ hd).1
  rw [← e]
  exact ⟨_, r1, rr.zip _ hz⟩
theorem call_minG {k : Nat} (hc : X.calm = true) (hr : Room k X.A) : CallR X (.builtin "min") (rMinG X.K PySem.W.minD) := by
  intro pins s σ H vs us Q I rx h
  obtain ⟨a, xs, x, r, rfl, hs, rr, hok, q⟩ := h
  obtain ⟨hal, hdep⟩ := okAl_spec hok
  have hu : X.A.units + 1 + PyData.depthAll (x :: r) < cLine := by have := u65 hr; omega
  rw [Vals.ref1 rx]
  rcases hs with hs | hs
  · obtain ⟨its, rv, hl, _⟩ := I.list hs
    obtain ⟨as, ra⟩ := Dp.readsAll I (x :: r) xs its rr.dp rv
    refine PySem.W.min_list_data (vs := its.toArray) (x := x) (xs := r) (I.ok.hd hc) hl.isList (by simpa using ra) hal hu fun i v h' tk bs hi hrd hk => ?_
    obtain ⟨w, rw', rR⟩ := pick_R rr rv ra (by simpa using hi) hrd hk
    exact ⟨w, H, I.kept hk, rw', q w rR⟩
  · obtain ⟨its, rv, hl, _⟩ := I.tuple hs
    obtain ⟨as, ra⟩ := Dp.readsAll I (x :: r) xs its rr.dp rv
    refine PySem.W.min_tuple_data (vs := its.toArray) (x := x) (xs := r) (I.ok.hd hc) hl (by simpa using ra) hal hu fun i v h' tk bs hi hrd hk => ?_
    obtain ⟨w, rw', rR⟩ := pick_R rr rv ra (by simpa using hi) hrd hk
    exact ⟨w, H, I.kept hk, rw', q w rR⟩
theorem call_maxG {k : Nat} (hc : X.calm = true) (hr : Room k X.A) : CallR X (.builtin "max") (rMinG X.K PySem.W.maxD) := by
  intro pins s σ H vs us Q I rx h
  obtain ⟨a, xs, x, r, rfl, hs, rr, hok, q⟩ := h
  obtain ⟨hal, hdep⟩ := okAl_spec hok
  have hu : X.A.units + 1 + PyData.depthAll (x :: r) < cLine := by have := u65 hr; omega
  rw [Vals.ref1 rx]
  rcases hs with hs | hs
  · obtain ⟨its, rv, hl, _⟩ := I.list hs
    obtain ⟨as, ra⟩ := Dp.readsAll I (x :: r) xs its rr.dp rv
    refine PySem.W.max_list_data (vs := its.toArray) (x := x) (xs := r) (I.ok.hd hc) hl.isList (by simpa using ra) hal hu fun i v h' tk bs hi hrd hk => ?_
    obtain ⟨w, rw', rR⟩ := pick_R rr rv ra (by simpa using hi) hrd hk
    exact ⟨w, H, I.kept hk, rw', q w rR⟩
  · obtain ⟨its, rv, hl, _⟩ := I.tuple hs
    obtain ⟨as, ra⟩ := Dp.readsAll I (x :: r) xs its rr.dp rv
    refine PySem.W.max_tuple_data (vs := its.toArray) (x := x) (xs := r) (I.ok.hd hc) hl (by simpa using ra) hal hu fun i v h' tk bs hi hrd hk => ?_
    obtain ⟨w, rw', rR⟩ := pick_R rr rv ra (by simpa using hi) hrd hk
    exact ⟨w, H, I.kept hk, rw', q w rR⟩
theorem b_min {k : Nat} (hc : X.calm = true) (hr : Room k X.A) : Cb1 X .sh (.builtin "min") bMin := by
  refine ⟨_, CallR.or (cr_min hc) (CallR.or (call_minT hc (u65 hr)) (call_minG hc hr)), fun ca c He H x dx d Q rx e u q => ?_⟩
  unfold bMin at e
  split at e
  · obtain ⟨l, vs, e1, h3, r1⟩ := rx.list
    unfold minG at e
    split at e
    · rename_i ns h1
      split at e
      · rename_i n r
        cases e
        refine .inl ⟨l, n :: r, by rw [e1], by rw [← r1.ints h1]; exact .inl h3, Nat.zero_lt_succ _, fun m hm hall => ?_⟩
        have sp := foldl_min_spec n r
        have e2 : m = r.foldl min n := Int.le_antisymm (hall _ sp.1) (sp.2 _ hm)
        rw [e2]
        exact q _ H (.int _) (.refl H) u
      · cases e
    · split at e
      · split at e
        · rename_i hok
          cases e
          exact .inr (.inr ⟨l, vs, _, _, by rw [e1], .inl (.inl h3), r1, hok, fun v rv => q v H rv (.refl H) u⟩)
        · cases e
      · cases e
  · obtain ⟨l, vs, e1, h3, r1⟩ := rx.tup
    unfold minG at e
    split at e
    · rename_i ns h1
      split at e
      · rename_i n r
        cases e
        exact .inr (.inl ⟨l, n, r, by rw [e1], by rw [← r1.ints h1]; exact h3, q _ H (.int _) (.refl H) u⟩)
      · cases e
    · split at e
      · split at e
        · rename_i hok
          cases e
          exact .inr (.inr ⟨l, vs, _, _, by rw [e1], .inr h3, r1, hok, fun v rv => q v H rv (.refl H) u⟩)
        · cases e
      · cases e
  · cases e
theorem b_max {k : Nat} (hc : X.calm = true) (hr : Room k X.A) : Cb1 X .sh (.builtin "max") bMax := by
  refine ⟨_, CallR.or (cr_max hc) (CallR.or (call_maxT hc (u65 hr)) (call_maxG hc hr)), fun ca c He H x dx d Q rx e u q => ?_⟩
  unfold bMax at e
  split at e
  · obtain ⟨l, vs, e1, h3, r1⟩ := rx.list
    unfold maxG at e
    split at e
    · rename_i ns h1
      split at e
      · rename_i n r
        cases e
        refine .inl ⟨l, n :: r, by rw [e1], by rw [← r1.ints h1]; exact .inl h3, Nat.zero_lt_succ _, fun m hm hall => ?_⟩
        have sp := foldl_max_spec n r
        have e2 : m = r.foldl max n := Int.le_antisymm (sp.2 _ hm) (hall _ sp.1)
        rw [e2]
        exact q _ H (.int _) (.refl H) u
      · cases e
    · split at e
      · split at e
        · rename_i hok
          cases e
          exact .inr (.inr ⟨l, vs, _, _, by rw [e1], .inl (.inl h3), r1, hok, fun v rv => q v H rv (.refl H) u⟩)
        · cases e
      · cases e
  · obtain ⟨l, vs, e1, h3, r1⟩ := rx.tup
    unfold maxG at e
    split at e
    · rename_i ns h1
      split at e
      · rename_i n r
        cases e
        exact .inr (.inl ⟨l, n, r, by rw [e1], by rw [← r1.ints h1]; exact h3, q _ H (.int _) (.refl H) u⟩)
      · cases e
    · split at e
      · split at e
        · rename_i hok
          cases e
          exact .inr (.inr ⟨l, vs, _, _, by rw [e1], .inr h3, r1, hok, fun v rv => q v H rv (.refl H) u⟩)
        · cases e
      · cases e
  · cases e
theorem b_sum (hc : X.calm = true) : Cb1 X .sh (.builtin "sum") bSum := by
  refine ⟨_, CallR.or (cr_sum hc) (cr_sumT hc), fun ca c He H x dx d Q rx e u q => ?_⟩
  unfold bSum at e
  split at e
  · obtain ⟨ns, h1, h2⟩ := Option.map_eq_some_iff.mp e
    cases h2
    obtain ⟨l, vs, e1, h3, r1⟩ := rx.list
    exact .inl ⟨l, ns, by rw [e1], by rw [← r1.ints h1]; exact .inl h3, q _ H (.int _) (.refl H) u⟩
  · obtain ⟨ns, h1, h2⟩ := Option.map_eq_some_iff.mp e
    cases h2
    obtain ⟨l, vs, e1, h3, r1⟩ := rx.tup
    exact .inr ⟨l, ns, by rw [e1], by rw [← r1.ints h1]; exact h3, q _ H (.int _) (.refl H) u⟩
  · cases e
end
/-! ### the law's own ends -/
def CupOk (c : Cup) : Prop := 0 ≤ c.1 ∧ 0 ≤ c.2 ∧ c.2 < 4294967296
def spCup (K : PySem.W.Frag) : Sp := fun vs H Q _ => ∃ (a : Addr) (ns : List Int), vs = [.ref a] ∧ SqL K H a (ns.map V.int) ∧ ns.length ≤ 63 ∧
  ∀ p c H', CupOk c → Same H H' → H' p = some (.lst [.int c.1, .int c.2]) → Q (.ref p) H'
def spLaw (K : PySem.W.Frag) : Sp := fun vs H Q _ => ∃ (a : Addr) (ns : List Int), vs = [.ref a] ∧ SqL K H a (ns.map V.int) ∧ ns.length ≤ 63 ∧ ∀ H', Q (.bl true) H'
/-- the law's rest, behind its first statement -/
theorem law_reads {K : PySem.W.Frag} {z : Zs} {b : SS} {N : List Str} {m : Nat} {vs : List V} {H : Hp} {Q : VK} {E : XK} (hz : z.cu = some 1) (hm : N.length = m + 2) (hl : ∀ c, CupOk c → ∃ c', b (List.replicate (m + 2) none) c = some (.rt (.bool true) c')) (h : spLaw K vs H Q E) :
    tSeq (tAsg (tCall (spCup K) [] E0 (tCons (tVar 0) tNil)) (gName 1)) (TDs K z b) { nx := fun _ H' => Q .non H', rt := Q } (L2.start N vs) H := by
  obtain ⟨a, ns, rfl, hS, hlen, q⟩ := h
  have hst : L2.start N [.ref a] = some (.ref a) :: List.replicate (m + 1) none := by
    unfold L2.start
    rw [hm]
    rfl
  rw [hst]
  refine ⟨_, rfl, a, ns, rfl, hS, hlen, fun p c H' hc hs hp => ?_⟩
  obtain ⟨c', e⟩ := hl c hc
  refine ⟨p, H', List.replicate (m + 2) none, c, _, ⟨hp, .refl H', by rw [hp]; simp, fun i hi => ?_, fun i d hi _ => ?_, fun i d hi _ _ => (rep_none hi).elim, fun i d hi _ _ => (rep_none hi).elim, fun i j a d e hi hj ne h1 => ?_, ?_⟩, e, fun v H2 rv _ _ => ?_⟩
  · rw [hz] at hi
    cases hi
    rfl
  · exact (rep_none hi).elim
  · exact (rep_none h1).elim
  · rw [List.length_set, List.length_cons, List.length_replicate, List.length_replicate]
  · cases (show R K H2 v (.bool true) from rv)
    exact q H2
end Wk
set_option Elab.async false
set_option linter.all false
set_option maxRecDepth 100000
set_option maxHeartbeats 1000000
namespace Wk
open PySem PySem.Spec PyProof.Rows L2
/-! ### comprehensions over two sources -/
def compD2 (tg : STg) (cd : STst) (src1 : SA) (vs1 : List Nat) (tg1 : STg) (cd1 : STst) (f : SE) : List D → Ev → Cup → Option (List D × Cup)
  | [], _, c => some ([], c)
  | d :: r, Γ, c => (tg d Γ).bind fun Γ' => (cd Γ' c).bind fun b => if b.1 then (src1 Γ' b.2).bind fun p => (compD tg1 cd1 f p.1 (wipeE Γ' vs1) p.2).bind fun q => (compD2 tg cd src1 vs1 tg1 cd1 f r Γ q.2).map fun s => (q.1 ++ s.1, s.2)
      else compD2 tg cd src1 vs1 tg1 cd1 f r Γ b.2
def sComp2 (vs : List Nat) (src : SA) (tg : STg) (cd : STst) (vs1 : List Nat) (src1 : SA) (tg1 : STg) (cd1 : STst) (f : SE) : SE := fun Γ c => (src Γ c).bind fun p => (compD2 tg cd src1 vs1 tg1 cd1 f p.1 (wipeE Γ vs) p.2).bind fun q => if q.1.length ≤ 16777216 then some (.list q.1, q.2) else none
/-- all but the cup and one list of the block is kept -/
theorem Rel.chg {K : PySem.W.Frag} {z : Zs} {ca D : Addr} {He : Hp} {Γ : Ev} {c c' : Cup} {σ : L2.St} {H H' : Hp} (r : Rel K z ca He Γ c σ H) (hm : Sm ca He H') (hf : Fz H H') (hs : ∀ a o, a ≠ ca → a ≠ D → H a = some o → H' a = some o)
    (hD : ∀ i d a, i ∈ z.O → Γ[i]? = some (some d) → σ[i]? = some (some (.ref a)) → a ≠ D) (k : CupAt ca c' H') : Rel K z ca He Γ c' σ H' where
  cup := k
  sm := hm
  hca := r.hca
  cu := r.cu
  val := fun i d h n => let ⟨v, e, q⟩ := r.val i d h n; ⟨v, e, q.mono hf⟩
  own := fun i d h n t => let ⟨a, ds, vs, e1, e2, e3, e4, e5⟩ := r.own i d h n t; ⟨a, ds, vs, e1, e2, hs _ _ (r.ne e4) (hD i d a n h e2) e3, e4, e5.mono hf⟩
  tab := fun i d h n t => let ⟨a, ds, vs, e1, e2, e3, e4, e5⟩ := r.tab i d h n t; ⟨a, ds, vs, e1, e2, hs _ _ (r.ne e4) (hD i d a n h e2) e3, e4, e5.mono hf⟩
  dis := r.dis
  len := r.len
section
variable {X : Cx} {z : Zs} {tg tg1 elt iter iter1 : Expr} {ifs ifs1 : List Expr} {scope : Scope} {own : List (Str × Nat)} {is is1 vs1 : List Nat} {src src1 : SA} {g g1 : STg} {cd cd1 : STst} {f : SE} {pos : Pos}
theorem tLc2_of {K : PySem.W.Frag} {vs : List Nat} (hcu : ∀ i, z.cu = some i → i ∉ vs) (hcu1 : ∀ i, z.cu = some i → i ∉ vs1) (his : ∀ i ∈ is, i ∈ vs) (his1 : ∀ i ∈ is1, i ∈ vs1) (hO : ∀ i ∈ is, i ∉ z.O) (hag : ∀ d Γ Γ', g d Γ = some Γ' → ∀ j, j ∉ is → Γ'[j]? = Γ[j]?)
    (σ : L2.St) (H : Hp) (Q : VK) (w : TD K z .nw (sComp2 vs src g cd vs1 src1 g1 cd1 f) σ H Q) : tLc2 (TId K z KS src) (TGd K z is g) (TTd K z cd) (TId K z KF src1) (TGd K z is1 g1) (TTd K z cd1) (TD K z .sh f) vs vs1 σ H Q := by
  obtain ⟨ca, He, Γ, c, d, c', r, e, q⟩ := w
  obtain ⟨⟨ds, c1⟩, e1, e⟩ := bind_some' e
  obtain ⟨⟨out, c2⟩, e2, e⟩ := bind_some' e
  simp only at e e2
  split at e
  · rename_i hz
    cases e
    refine ⟨ca, He, Γ, c, ds, c1, r, e1, fun J H1 ⟨G, Y, w, hG, hY⟩ s1 u1 D hD => ?_⟩
    have r1 := r.mono s1 u1
    have nD : D ≠ ca := fun e => by rw [e, show H1 ca = _ from u1] at hD; cases hD
    let Pv : Nat → Hp → Prop := fun i H2 => ∃ acc vs' rest c3, Sm ca H1 H2 ∧ CupAt ca c3 H2 ∧ H2 D = some (.lst vs') ∧ Rs K H2 vs' acc ∧ compD2 g cd src1 vs1 g1 cd1 f (ds.drop i) (wipeE Γ vs) c3 = some (rest, c') ∧ acc ++ rest = out
    refine ⟨fun i m H2 => m = ds.length - i ∧ i ≤ ds.length ∧ Pv i H2, ⟨ds.length, by simp, Nat.zero_le _, [], [], out, c1, .new hD, u1.new hD, upd_same, .nil, e2, rfl⟩, ?_⟩
    rintro i m H2 ⟨rfl, hi, acc, vs', rest, c3, s2, u2, hl, ha, e4, e5⟩
    by_cases hlt : i < ds.length
    · refine .inr ⟨w.goes i H2 hlt (hG H2 s2), Pv (i + 1), fun H' p => ⟨ds.length - (i + 1), by omega, rfl, hlt, p⟩, fun x H3 y => ?_⟩
      obtain ⟨d3, hd, rx, kp⟩ := hY i H2 x H3 hlt s2 (w.yields i H2 x H3 hlt (hG H2 s2) y)
      rw [drop_get hd] at e4
      obtain ⟨Γ3, e6, e4⟩ := bind_some' e4
      obtain ⟨⟨b3, c4⟩, e7, e4⟩ := bind_some' e4
      have s3 : Sm ca H2 H3 := fun a o _ h => kp a o h
      have u3 : CupAt ca c3 H3 := kp _ _ u2
      have rw3 : Rel K z ca He (wipeE Γ vs) c3 (L2.wipe σ vs) H3 := ((r1.mono s2 u2).mono s3 u3).wipe hcu
      refine ⟨ca, He, _, c3, d3, Γ3, rw3, rx, e6, fun σ4 r4 a4 => ⟨?_, ?_⟩⟩
      · have h5 := wipe_agree a4 his
        rw [h5]
        refine List.ext_getElem? fun j => ?_
        rw [wipe_get, wipe_length, wipe_get]
        split <;> rfl
      · have ownD : ∀ i d a, i ∈ z.O → Γ3[i]? = some (some d) → σ4[i]? = some (some (.ref a)) → a ≠ D := fun i d a hi hg hs => by
          have ni : i ∉ is := fun h => hO i h hi
          rw [hag _ _ _ e6 i ni] at hg
          obtain ⟨_, hg⟩ := wipeE_get hg
          obtain ⟨b, _, k1, k2, k3⟩ := r1.any hg hi
          rw [a4.2 i ni, wipe_get] at hs
          split at hs
          · cases hs
          · rw [k1] at hs
            cases hs
            intro e
            rw [e, hD] at k2
            cases k2
        refine ⟨ca, He, Γ3, c3, b3, c4, r4, e7, fun H5 s5 u5 => ?_⟩
        have s25 := s3.trans s5
        cases b3 with
        | false =>
          refine iteF ?_
          exact ⟨acc, vs', rest, c4, s2.trans s25, u5, s25 _ _ nD hl, ha.mono (s25.fz u2), e4, e5⟩
        | true =>
          refine iteT ?_
          obtain ⟨⟨ds1, c6⟩, e8, e4⟩ := bind_some' e4
          obtain ⟨⟨out1, c7⟩, e9, e4⟩ := bind_some' e4
          obtain ⟨⟨rest2, c8⟩, e10, e11⟩ := Option.map_eq_some_iff.mp e4
          cases e11
          refine ⟨ca, He, Γ3, c4, ds1, c6, r4.mono s5 u5, e8, fun J1 H6 ⟨G1, Y1, w1, hG1, hY1⟩ s6 u6 => ?_⟩
          have s16 := (s2.trans s25).trans s6
          have r6 := (r4.mono s5 u5).mono s6 u6
          have sHe6 : Sm ca He H6 := r6.sm
          have nHe : He D = none := by
            cases hh : He D with
            | none => rfl
            | some o =>
              have := r1.sm D o nD hh
              rw [hD] at this
              cases this
          let P1 : Nat → Hp → Prop := fun j H7 => ∃ acc1 vs'' rest1 c9, (∀ a o, a ≠ ca → a ≠ D → H6 a = some o → H7 a = some o) ∧ CupAt ca c9 H7 ∧ H7 D = some (.lst vs'') ∧ Rs K H7 vs'' acc1 ∧ compD g1 cd1 f (ds1.drop j) (wipeE Γ3 vs1) c9 = some (rest1, c7) ∧ acc1 ++ rest1 = acc ++ out1
          have fz6 : ∀ H7, (∀ a o, a ≠ ca → a ≠ D → H6 a = some o → H7 a = some o) → Fz H6 H7 := fun H7 h a o ho fo => by
            refine h a o ?_ ?_ ho
            · rintro rfl
              rw [show H6 a = _ from u6] at ho
              cases ho
              exact fo
            · rintro rfl
              have := s6 _ _ nD (s25 _ _ nD hl)
              rw [ho] at this
              cases this
              exact fo
          have sm1 : ∀ H7, (∀ a o, a ≠ ca → a ≠ D → H6 a = some o → H7 a = some o) → Sm ca H1 H7 := fun H7 h a o na ha => by
            refine h a o na ?_ (s16 a o na ha)
            rintro rfl
            rw [hD] at ha
            cases ha
          have relOf : ∀ H7 c9, (∀ a o, a ≠ ca → a ≠ D → H6 a = some o → H7 a = some o) → CupAt ca c9 H7 → Rel K z ca He (wipeE Γ3 vs1) c9 (L2.wipe σ4 vs1) H7 := fun H7 c9 h u =>
            (r6.chg (D := D) (fun a o na hh => (sm1 H7 h) a o na (r1.sm a o na hh)) (fz6 H7 h) h ownD u).wipe hcu1
          refine ⟨fun j k H7 => k = ds1.length - j ∧ j ≤ ds1.length ∧ P1 j H7, ⟨ds1.length, by simp, Nat.zero_le _, acc, vs', out1, c6, fun a o _ _ h => h, u6, s6 _ _ nD (s25 _ _ nD hl), (ha.mono (s25.fz u2)).mono (s6.fz u5), e9, rfl⟩, ?_⟩
          rintro j k H7 ⟨rfl, hj, acc1, vs'', rest1, c9, h7, u7, hl7, ha7, e12, e13⟩
          by_cases hlt1 : j < ds1.length
          · have kf7 : KF ca H6 H7 := fz6 H7 h7
            refine .inr ⟨w1.goes j H7 hlt1 (hG1 H7 kf7), P1 (j + 1), fun H' p => ⟨ds1.length - (j + 1), by omega, rfl, hlt1, p⟩, fun x1 H8 y1 => ?_⟩
            obtain ⟨d8, hd8, rx8, kp8⟩ := hY1 j H7 x1 H8 hlt1 kf7 (w1.yields j H7 x1 H8 hlt1 (hG1 H7 kf7) y1)
            rw [drop_get hd8] at e12
            obtain ⟨Γ9, e14, e12⟩ := bind_some' e12
            obtain ⟨⟨b9, c10⟩, e15, e12⟩ := bind_some' e12
            have h8 : ∀ a o, a ≠ ca → a ≠ D → H6 a = some o → H8 a = some o := fun a o na nd h => kp8 a o (h7 a o na nd h)
            refine ⟨ca, He, _, c9, d8, Γ9, relOf H8 c9 h8 (kp8 _ _ u7), rx8, e14, fun σ9 r9 a9 => ⟨?_, ?_⟩⟩
            · have h5 := wipe_agree a9 his1
              rw [h5]
              refine List.ext_getElem? fun j => ?_
              rw [wipe_get, wipe_length, wipe_get]
              split <;> rfl
            · have s78 : Sm ca H7 H8 := fun a o _ h => kp8 a o h
              refine ⟨ca, He, Γ9, c9, b9, c10, r9, e15, fun H10 s10 u10 => ?_⟩
              have s710 := s78.trans s10
              have h10 : ∀ a o, a ≠ ca → a ≠ D → H6 a = some o → H10 a = some o := fun a o na nd h => s710 a o na (h7 a o na nd h)
              cases b9 with
              | false =>
                refine iteF ?_
                exact ⟨acc1, vs'', rest1, c10, h10, u10, s710 _ _ nD hl7, ha7.mono (s710.fz u7), e12, e13⟩
              | true =>
                refine iteT ?_
                obtain ⟨⟨d11, c11⟩, e16, e12⟩ := bind_some' e12
                obtain ⟨⟨q11, c12⟩, e17, e18⟩ := Option.map_eq_some_iff.mp e12
                cases e18
                refine ⟨ca, He, Γ9, c10, d11, c11, r9.mono s10 u10, e16, fun v11 H11 r11 s11 u11 => ?_⟩
                have s711 := s710.trans s11
                have hl11 := s711 _ _ nD hl7
                have fz11 := s711.fz u7
                refine ⟨vs'', hl11, ?_, acc1 ++ [d11], vs'' ++ [v11], q11, c11, ?_, ?_, upd_same, ?_, e17, ?_⟩
                · have hle := congrArg List.length e13
                  have hle2 := congrArg List.length e5
                  simp only [List.length_append, List.length_cons] at hle hle2
                  rw [ha7.len, sizeLine_is]
                  omega
                · intro a o na nd h
                  rw [upd_ne nd]
                  exact s711 _ _ na (h7 a o na nd h)
                · show upd _ _ _ ca = _
                  rw [upd_ne nD.symm]
                  exact u11
                · exact ((ha7.mono fz11).app (.cons r11 .nil)).mono (fz_lst hl11)
                · rw [List.append_assoc]
                  exact e13
          · have ej : j = ds1.length := by omega
            subst ej
            rw [List.drop_length] at e12
            cases e12
            rw [List.append_nil] at e13
            subst e13
            refine .inl ⟨w1.stops H7 (hG1 H7 (fz6 H7 h7)), ?_⟩
            exact ⟨_, vs'', rest2, _, sm1 H7 h7, u7, hl7, ha7, e10, by rw [List.append_assoc]; exact e5⟩
    · have ei : i = ds.length := by omega
      subst ei
      rw [List.drop_length] at e4
      cases e4
      rw [List.append_nil] at e5
      subst e5
      exact .inl ⟨w.stops H2 (hG H2 s2), q _ H2 ⟨D, acc, vs', rfl, rfl, s1.was u1 hD, hl, ha⟩ (s1.trans s2) u2⟩
  · cases e
def sh0 : Shared := {}
theorem pd_comp2 (hc : X.calm = true) (hN : X.N.Nodup) (ok : BlkOk X.N X.env.scope scope own) (hi : PId X z KS tg iter src)
    (hg : ∀ (s : Shared) (H : Hp) (C : Addr) (cl : List (Str × Addr)) (fp : List Addr), PGd (X.blk s H scope (compEnvC scope cl C X.env) fp) z tg is g)
    (ht : ∀ (s : Shared) (H : Hp) (C : Addr) (cl : List (Str × Addr)) (fp : List Addr), PTds (X.blk s H scope (compEnvC scope cl C X.env) fp) z ifs cd)
    (hi1 : ∀ (s : Shared) (H : Hp) (C : Addr) (cl : List (Str × Addr)) (fp : List Addr), PId (X.blk s H scope (compEnvC scope cl C X.env) fp) z KF tg1 iter1 src1)
    (hg1 : ∀ (s : Shared) (H : Hp) (C : Addr) (cl : List (Str × Addr)) (fp : List Addr), PGd (X.blk s H scope (compEnvC scope cl C X.env) fp) z tg1 is1 g1)
    (ht1 : ∀ (s : Shared) (H : Hp) (C : Addr) (cl : List (Str × Addr)) (fp : List Addr), PTds (X.blk s H scope (compEnvC scope cl C X.env) fp) z ifs1 cd1)
    (he : ∀ (s : Shared) (H : Hp) (C : Addr) (cl : List (Str × Addr)) (fp : List Addr), PD (X.blk s H scope (compEnvC scope cl C X.env) fp) z elt .sh f)
    (hcu : CuOk z (own.map (·.2)) = true) (his : ∀ i ∈ is, i ∈ own.map (·.2)) (his1 : ∀ i ∈ is1, i ∈ vs1) (hv : ∀ i ∈ vs1, i ∈ own.map (·.2)) (hO2 : ∀ i ∈ is, i ∉ z.O) (hs : ∀ x, foldedSetIterable iter X.env x = pure x := by intro _; rfl) (hs1 : ∀ env x, foldedSetIterable iter1 env x = pure x := by intro _ _; rfl) :
    PD X z (.ListComp elt [⟨tg, iter, ifs, 0⟩, ⟨tg1, iter1, ifs1, 0⟩] scope pos) .nw (sComp2 (own.map (·.2)) src g cd vs1 src1 g1 cd1 f) :=
  ⟨pe_imp (pe_lc2 hc hN hi.pi ok hv (fun s H C cl fp => (hg s H C cl fp).pg) (fun s H C cl fp => (ht s H C cl fp).pt) (fun s H C cl fp => (hi1 s H C cl fp).pi) (fun s H C cl fp => (hg1 s H C cl fp).pg) (fun s H C cl fp => (ht1 s H C cl fp).pt) (fun s H C cl fp => (he s H C cl fp).pe) hs hs1) (tLc2_of (CuOk.ok hcu) (fun i hi hm => CuOk.ok hcu i hi (hv i hm)) his his1 hO2 (fun d Γ Γ2 => (hg sh0 (fun _ => none) 0 [] []).ag d Γ Γ2))⟩
theorem psd_setLc2O {i : Nat} {y : Str} {py spos : Pos} (hc : X.calm = true) (hN : X.N.Nodup) (ok : BlkOk X.N X.env.scope scope own) (hi : PId X z KS tg iter src)
    (hg : ∀ (s : Shared) (H : Hp) (C : Addr) (cl : List (Str × Addr)) (fp : List Addr), PGd (X.blk s H scope (compEnvC scope cl C X.env) fp) z tg is g)
    (ht : ∀ (s : Shared) (H : Hp) (C : Addr) (cl : List (Str × Addr)) (fp : List Addr), PTds (X.blk s H scope (compEnvC scope cl C X.env) fp) z ifs cd)
    (hi1 : ∀ (s : Shared) (H : Hp) (C : Addr) (cl : List (Str × Addr)) (fp : List Addr), PId (X.blk s H scope (compEnvC scope cl C X.env) fp) z KF tg1 iter1 src1)
    (hg1 : ∀ (s : Shared) (H : Hp) (C : Addr) (cl : List (Str × Addr)) (fp : List Addr), PGd (X.blk s H scope (compEnvC scope cl C X.env) fp) z tg1 is1 g1)
    (ht1 : ∀ (s : Shared) (H : Hp) (C : Addr) (cl : List (Str × Addr)) (fp : List Addr), PTds (X.blk s H scope (compEnvC scope cl C X.env) fp) z ifs1 cd1)
    (he : ∀ (s : Shared) (H : Hp) (C : Addr) (cl : List (Str × Addr)) (fp : List Addr), PD (X.blk s H scope (compEnvC scope cl C X.env) fp) z elt .sh f)
    (hcu : CuOk z (own.map (·.2)) = true) (his : ∀ i ∈ is, i ∈ own.map (·.2)) (his1 : ∀ i ∈ is1, i ∈ vs1) (hv : ∀ i ∈ vs1, i ∈ own.map (·.2)) (hO2 : ∀ i ∈ is, i ∉ z.O)
    (hy : X.N[i]? = some y := by rfl) (hO : i ∈ z.O := by decide) (hT : i ∉ z.T := by decide) (hcz : z.cu ≠ some i := by decide) (hyl : X.env.scope.names.lookup y = some .local := by rfl)
    (hsw : swapsWith (.ListComp elt [⟨tg, iter, ifs, 0⟩, ⟨tg1, iter1, ifs1, 0⟩] scope pos) (some (.Name y py)) spos.line X.env = pure true := by exact sw_true rfl rfl rfl (by decide +kernel))
    (hs : ∀ x, foldedSetIterable iter X.env x = pure x := by intro _; rfl) (hs1 : ∀ env x, foldedSetIterable iter1 env x = pure x := by intro _ _; rfl) : PSd X z (.Assign [.Name y py] (.ListComp elt [⟨tg, iter, ifs, 0⟩, ⟨tg1, iter1, ifs1, 0⟩] scope pos) spos) (sSet i (sComp2 (own.map (·.2)) src g cd vs1 src1 g1 cd1 f)) :=
  ⟨ps_imp (ps_setLc2 hc hN hy hyl hsw hi.pi ok hv (fun s H C cl fp => (hg s H C cl fp).pg) (fun s H C cl fp => (ht s H C cl fp).pt) (fun s H C cl fp => (hi1 s H C cl fp).pi) (fun s H C cl fp => (hg1 s H C cl fp).pg) (fun s H C cl fp => (ht1 s H C cl fp).pt) (fun s H C cl fp => (he s H C cl fp).pe) hs hs1) fun Dn σ H ⟨ca, He, Γ, c, o, r, e, q⟩ => by
    obtain ⟨⟨d1, c1⟩, e1, e2⟩ := Option.map_eq_some_iff.mp e
    cases e2
    refine (tLc2_of (CuOk.ok hcu) (fun i hi hm => CuOk.ok hcu i hi (hv i hm)) his his1 hO2 (fun d Γ Γ2 => (hg sh0 (fun _ => none) 0 [] []).ag d Γ Γ2)) σ H _ ⟨ca, He, Γ, c, d1, c1, r, e1, fun v H1 rv s1 u1 => ?_⟩
    obtain ⟨a, ds, vs, rfl, rfl, n, hh, rr⟩ := rv
    refine q _ H1 ((r.mono s1 u1).setO hO hT hcz hh (r.sm.was r.cup n) rr fun j d hj nj hg hs => ?_) (s1.fz r.cup)
    obtain ⟨b, _, e2, e3, _⟩ := r.any hg hj
    rw [e2] at hs
    cases hs
    rw [n] at e3
    cases e3⟩
theorem psd_setLc2 {i : Nat} {y : Str} {py spos : Pos} (hc : X.calm = true) (hN : X.N.Nodup) (ok : BlkOk X.N X.env.scope scope own) (hi : PId X z KS tg iter src)
    (hg : ∀ (s : Shared) (H : Hp) (C : Addr) (cl : List (Str × Addr)) (fp : List Addr), PGd (X.blk s H scope (compEnvC scope cl C X.env) fp) z tg is g)
    (ht : ∀ (s : Shared) (H : Hp) (C : Addr) (cl : List (Str × Addr)) (fp : List Addr), PTds (X.blk s H scope (compEnvC scope cl C X.env) fp) z ifs cd)
    (hi1 : ∀ (s : Shared) (H : Hp) (C : Addr) (cl : List (Str × Addr)) (fp : List Addr), PId (X.blk s H scope (compEnvC scope cl C X.env) fp) z KF tg1 iter1 src1)
    (hg1 : ∀ (s : Shared) (H : Hp) (C : Addr) (cl : List (Str × Addr)) (fp : List Addr), PGd (X.blk s H scope (compEnvC scope cl C X.env) fp) z tg1 is1 g1)
    (ht1 : ∀ (s : Shared) (H : Hp) (C : Addr) (cl : List (Str × Addr)) (fp : List Addr), PTds (X.blk s H scope (compEnvC scope cl C X.env) fp) z ifs1 cd1)
    (he : ∀ (s : Shared) (H : Hp) (C : Addr) (cl : List (Str × Addr)) (fp : List Addr), PD (X.blk s H scope (compEnvC scope cl C X.env) fp) z elt .sh f)
    (hcu : CuOk z (own.map (·.2)) = true) (his : ∀ i ∈ is, i ∈ own.map (·.2)) (his1 : ∀ i ∈ is1, i ∈ vs1) (hv : ∀ i ∈ vs1, i ∈ own.map (·.2)) (hO2 : ∀ i ∈ is, i ∉ z.O)
    (hy : X.N[i]? = some y := by rfl) (hO : i ∉ z.O := by decide) (hcz : z.cu ≠ some i := by decide) (hyl : X.env.scope.names.lookup y = some .local := by rfl)
    (hsw : swapsWith (.ListComp elt [⟨tg, iter, ifs, 0⟩, ⟨tg1, iter1, ifs1, 0⟩] scope pos) (some (.Name y py)) spos.line X.env = pure true := by exact sw_true rfl rfl rfl (by decide +kernel))
    (hs : ∀ x, foldedSetIterable iter X.env x = pure x := by intro _; rfl) (hs1 : ∀ env x, foldedSetIterable iter1 env x = pure x := by intro _ _; rfl) : PSd X z (.Assign [.Name y py] (.ListComp elt [⟨tg, iter, ifs, 0⟩, ⟨tg1, iter1, ifs1, 0⟩] scope pos) spos) (sSet i (sComp2 (own.map (·.2)) src g cd vs1 src1 g1 cd1 f)) :=
  ⟨ps_imp (ps_lockAfter (ps_setLc2 hc hN hy hyl hsw hi.pi ok hv (fun s H C cl fp => (hg s H C cl fp).pg) (fun s H C cl fp => (ht s H C cl fp).pt) (fun s H C cl fp => (hi1 s H C cl fp).pi) (fun s H C cl fp => (hg1 s H C cl fp).pg) (fun s H C cl fp => (ht1 s H C cl fp).pt) (fun s H C cl fp => (he s H C cl fp).pe) hs hs1)) fun Dn σ H ⟨ca, He, Γ, c, o, r, e, q⟩ => by
    obtain ⟨⟨d1, c1⟩, e1, e2⟩ := Option.map_eq_some_iff.mp e
    cases e2
    refine (tLc2_of (CuOk.ok hcu) (fun i hi hm => CuOk.ok hcu i hi (hv i hm)) his his1 hO2 (fun d Γ Γ2 => (hg sh0 (fun _ => none) 0 [] []).ag d Γ Γ2)) σ H _ ⟨ca, He, Γ, c, d1, c1, r, e1, fun v H1 rv s1 u1 => ?_⟩
    obtain ⟨a, ds, vs, rfl, rfl, n, hh, rr⟩ := rv
    refine ⟨a, vs, hh, fun od => ?_⟩
    have na : a ≠ ca := fun e => by rw [e, show H ca = _ from r.cup] at n; cases n
    have fz : Fz H1 (upd H1 a (.frz od (.lst vs))) := fun b o hb fo => by
      rw [upd_ne]
      · exact hb
      · rintro rfl
        rw [hh] at hb
        cases hb
        exact fo
    have s2 : Sm ca H (upd H1 a (.frz od (.lst vs))) := fun b o nb hb => by
      rw [upd_ne (fun e => by rw [e, n] at hb; cases hb)]
      exact s1 b o nb hb
    have u2 : CupAt ca c1 (upd H1 a (.frz od (.lst vs))) := by
      show upd _ _ _ ca = _
      rw [upd_ne na.symm]
      exact u1
    exact q _ _ ((r.mono s2 u2).setV hO hcz (.lst ⟨od, upd_same⟩ (rr.mono fz))) (s2.fz r.cup)⟩
end
end Wk
set_option Elab.async false
set_option linter.all false
set_option maxRecDepth 100000
set_option maxHeartbeats 1000000
namespace Wk
open PySem PySem.Spec PyProof.Rows L2
/-! ### iterators of any kind within enumerate and zip -/
structure Dr (P : Program) (w : World) (K : PySem.W.Frag) (G : Hp → Prop) (fp : List Addr) (it : Addr) (n : Nat) (ys : Nat → V → Prop) (tn : Nat → Heap → Prop) : Prop where
  mem : it ∈ fp
  obj : ∀ i h, tn i h → ∃ o, h.get? it = some o ∧ ∀ v, o.data ≠ .cell v
  keep : ∀ i h h', tn i h → (∀ o, h.get? it = some o → h'.get? it = some o) → tn i h'
  draw : ∀ (X : Cx), X.prog = P → X.w = w → X.K = K → ∀ (pins : List (Addr × Obj)) (s : Shared) (σ : L2.St) (H : Hp), Inv X pins σ H s → G H →
    ∃ (Pu : Nat → Value → Prop) (St : Nat → Heap → Prop), (∀ A : Around, A.handled = none → Draws P w A it fp n Pu St) ∧ (∀ i, tn i s.heap → St i s.heap) ∧ (∀ i h, St i h → tn i h) ∧ ∀ i u, Pu i u → ∃ y, ys i y ∧ RelV y u
section
variable {P : Program} {w : World} {K : PySem.W.Frag} {a it : Addr}
theorem dr_list (hne : a ≠ it) (xs : List V) : Dr P w K (fun H => SqL K H a xs) [it, a] it xs.length (fun i y => xs[i]? = some y) (fun i h => h.IsListIter it a i) where
  mem := by simp
  obj := fun i h ⟨o, ho, _, hd⟩ => ⟨o, ho, fun v q => by rw [hd] at q; cases q⟩
  keep := fun i h h' st k => st.at fun o e => k o e
  draw := by
    intro X hP hw hK pins s σ H I hq
    subst hP hw hK
    obtain ⟨its, rv, p, _⟩ := I.list hq
    have hl : its.toArray.size = xs.length := by simp [rv.length]
    refine ⟨fun i v => its.toArray[i]? = some v, fun i h => h.IsListIter it a i ∧ h.IsList a its.toArray, fun A hh => by rw [← hl]; exact Draws.list hh it a hne its.toArray, fun i st => ⟨st, p.isList⟩, fun i h st => st.1, fun i u hu => ?_⟩
    have hi : i < xs.length := by
      rw [← hl]
      exact (Array.getElem?_eq_some_iff.mp hu).1
    obtain ⟨u', hu', ru⟩ := rv.get (List.getElem?_eq_getElem hi)
    have e : u = u' := by
      have hu2 : its[i]? = some u := by simpa using hu
      rw [hu'] at hu2
      exact (Option.some.inj hu2).symm
    subst e
    exact ⟨_, List.getElem?_eq_getElem hi, ru⟩
theorem dr_tup (hne : a ≠ it) (xs : List V) : Dr P w K (fun H => SqT K H a xs) [it, a] it xs.length (fun i y => xs[i]? = some y) (fun i h => h.IsTupleIter it a i) where
  mem := by simp
  obj := fun i h ⟨o, ho, _, hd⟩ => ⟨o, ho, fun v q => by rw [hd] at q; cases q⟩
  keep := fun i h h' st k => st.at fun o e => k o e
  draw := by
    intro X hP hw hK pins s σ H I hq
    subst hP hw hK
    obtain ⟨its, rv, p, _⟩ := I.tuple hq
    have hl : its.toArray.size = xs.length := by simp [rv.length]
    refine ⟨fun i v => its.toArray[i]? = some v, fun i h => h.IsTupleIter it a i ∧ h.IsTuple a its.toArray, fun A hh => by rw [← hl]; exact Draws.tuple hh it a hne its.toArray, fun i st => ⟨st, p⟩, fun i h st => st.1, fun i u hu => ?_⟩
    have hi : i < xs.length := by
      rw [← hl]
      exact (Array.getElem?_eq_some_iff.mp hu).1
    obtain ⟨u', hu', ru⟩ := rv.get (List.getElem?_eq_getElem hi)
    have e : u = u' := by
      have hu2 : its[i]? = some u := by simpa using hu
      rw [hu'] at hu2
      exact (Option.some.inj hu2).symm
    subst e
    exact ⟨_, List.getElem?_eq_getElem hi, ru⟩
theorem dr_str (x : Str) (t : Tok) : Dr P w K (fun _ => True) [it] it x.cps.size (fun i y => ∃ c, x.cps[i]? = some c ∧ y = .str ⟨#[c]⟩) (fun i h => h.IsStrIter it (strIterType x) x t i) where
  mem := by simp
  obj := fun i h ⟨o, ho, _, hd⟩ => ⟨o, ho, fun v q => by rw [hd] at q; cases q⟩
  keep := fun i h h' ⟨o, ho, r⟩ k => ⟨o, k o ho, r⟩
  draw := by
    intro X hP hw hK pins s σ H I _
    subst hP hw hK
    exact ⟨_, _, fun A hh => Draws.text hh it x t, fun i st => st, fun i h st => st, fun i u ⟨c, tk, hc, e⟩ => ⟨_, ⟨c, hc, rfl⟩, by subst e; exact ⟨_, rfl⟩⟩⟩
/-- enumerate over it -/
def JEn (G : Hp → Prop) (n : Nat) (ys : Nat → V → Prop) : It :=
  ⟨fun i H => i < n ∧ G H, fun i H v H' => ∃ T y, v = .ref T ∧ H T = none ∧ H' = upd H T (.tup [.int (i : Nat), y]) ∧ ys i y, fun i H => i = n ∧ G H⟩
theorem turn_en {elts : List Expr} {kk : Nat} {tpos : Pos} {e : Addr} {G : Hp → Prop} {fp : List Addr} {n : Nat} {ys : Nat → V → Prop} {tn : Nat → Heap → Prop} (D : Dr P w K G fp it n ys tn) (hne : e ≠ it) (hef : e ∉ fp) :
    Turn P w K (.Tuple elts kk tpos) (JEn G n ys) [e, it] e (fun i h => (∃ old, IsEnum h e it ((i : Nat) : Int) old) ∧ tn i h) where
  mem := by simp
  obj := fun i h st b hb => by
    obtain ⟨⟨old, he⟩, hi⟩ := st
    have e' : b = e ∨ b = it := by simpa using hb
    rcases e' with z | z
    · rw [z]; exact ⟨_, he, fun v q => nomatch q⟩
    · rw [z]; exact D.obj _ _ hi
  keep := fun i h h' st k => let ⟨⟨old, he⟩, hi⟩ := st; ⟨⟨old, k e (by simp) _ he⟩, D.keep _ _ _ hi fun o q => k it (by simp) o q⟩
  item := by
    intro X hP hw hK hc i pins s σ H E I hf st hg
    obtain ⟨Pu, St, dd, k1, k2, k3⟩ := D.draw X hP hw hK pins s σ H I hg.2
    subst hP hw hK
    obtain ⟨⟨old, he⟩, hit⟩ := st
    obtain ⟨o0, ho0, _⟩ := D.obj _ _ hit
    have hel : e < s.heap.objs.size := Heap.lt_size he
    have hil : it < s.heap.objs.size := Heap.lt_size ho0
    refine wpAny_pyNext_enum_itemC (dd X.A.in1 (I.ok.hd hc)) he (k1 _ hit) hg.1 hne hef fun u h' tk hu ho st' hT hsz hk => ?_
    obtain ⟨y, hy, ru⟩ := k3 _ _ hu
    refine ⟨_, rfl, wpAny_letOwnedTupleGo_enum (s := { s with heap := h', toks := tk + 1 }) ho fun h'' he' sb => ?_⟩
    have hT2 : h''.get? s.heap.objs.size = some { cls := .type "tuple", data := .seq #[.int i tk, u] } := (sb.2 _ (Nat.ne_of_gt hel)).trans hT
    have new : ObjOk X.prog X.w (upd H s.heap.objs.size (.tup [.int (i : Nat), y])) h'' s.heap.objs.size (.tup [.int (i : Nat), y]) :=
      ⟨by show 2 ≤ sizeLine; decide, [.int i tk, u], .cons ⟨_, rfl⟩ (.cons ru .nil), ⟨_, hT2, rfl, _, rfl⟩⟩
    have I1 : Inv X pins σ (upd H s.heap.objs.size (.tup [.int (i : Nat), y])) { s with heap := h'', toks := tk + 1 } :=
      I.turnedNew (ch := [e, it]) (fun b ob hb q => (sb.2 b (fun z => hb (by simp [z]))).trans (hk b ob (fun z => hb (by simp [z])) (fun z => hb (by simp [z])) q)) hf (Nat.le_refl _) new
    refine ⟨.ref s.heap.objs.size, _, I1, rfl, ⟨_, y, rfl, I.hok.fresh (Nat.le_refl _), rfl, hy⟩, ⟨⟨u, ?_⟩, D.keep _ _ _ (k2 _ _ st') fun o q => (sb.2 it (Ne.symm hne)).trans q⟩, fun b hb => ?_⟩
    · rw [show ((i + 1 : Nat) : Int) = (i : Int) + 1 by omega]
      exact he'
    · have hb' : b < s.heap.objs.size := by
        have e' : b = e ∨ b = it := by simpa using hb
        rcases e' with z | z
        · rw [z]; exact hel
        · rw [z]; exact hil
      rw [upd_ne (Nat.ne_of_lt hb')]
      exact (hf b hb).1
  done := by
    intro X hP hw hK hc i pins s σ H E I hf st hg
    obtain ⟨Pu, St, dd, k1, k2, k3⟩ := D.draw X hP hw hK pins s σ H I hg.2
    subst hP hw hK
    obtain ⟨⟨old, he⟩, hit⟩ := st
    obtain ⟨rfl, _⟩ := hg
    obtain ⟨f0, f1, f2, f3, f4, f5⟩ := hf it (by simp)
    exact wpAny_pyNext_enum_endD (dd X.A.in1 (I.ok.hd hc)) he (k1 _ hit) fun h' eb => ⟨rfl, I.turned (t' := s.toks) (fun b o hb q => eb b o hb q) f0 f1 f3 f4 f5⟩
  self := fun A i s Q E st h => let ⟨⟨_, he⟩, _⟩ := st; wpAny_pyIter_enum he h
/-- zip over two -/
def JZi (G1 G2 : Hp → Prop) (n1 n2 : Nat) (ys1 ys2 : Nat → V → Prop) : It :=
  ⟨fun i H => (i < n1 ∧ i < n2) ∧ G1 H ∧ G2 H, fun i H v H' => ∃ T x y, v = .ref T ∧ H T = none ∧ H' = upd H T (.tup [x, y]) ∧ ys1 i x ∧ ys2 i y, fun i H => (i ≤ n1 ∧ i ≤ n2 ∧ (i = n1 ∨ i = n2)) ∧ G1 H ∧ G2 H⟩
theorem turn_zi {elts : List Expr} {kk : Nat} {tpos : Pos} {z TI TO i1 i2 : Addr} {G1 G2 : Hp → Prop} {fp1 fp2 : List Addr} {n1 n2 : Nat} {ys1 ys2 : Nat → V → Prop} {tn1 tn2 : Nat → Heap → Prop}
    (D1 : Dr P w K G1 fp1 i1 n1 ys1 tn1) (D2 : Dr P w K G2 fp2 i2 n2 ys2 tn2) (S : ZipSep2 z TI TO i1 i2 fp1 fp2) :
    Turn P w K (.Tuple elts kk tpos) (JZi G1 G2 n1 n2 ys1 ys2) [z, TI, TO, i1, i2] z (fun i h => IsZip h z TI TO .none ∧ IsTupOf2 h TI (.ref i1) (.ref i2) ∧ (∃ x y, IsTupOf2 h TO x y) ∧ tn1 i h ∧ tn2 i h) where
  mem := by simp
  obj := fun i h st c hc => by
    obtain ⟨hz, hTI, ⟨x, y, hTO⟩, h1, h2⟩ := st
    have e' : c = z ∨ c = TI ∨ c = TO ∨ c = i1 ∨ c = i2 := by simpa using hc
    rcases e' with q | q | q | q | q
    · rw [q]; exact ⟨_, hz, fun v q => nomatch q⟩
    · rw [q]; exact ⟨_, hTI, fun v q => nomatch q⟩
    · rw [q]; exact ⟨_, hTO, fun v q => nomatch q⟩
    · rw [q]; exact D1.obj _ _ h1
    · rw [q]; exact D2.obj _ _ h2
  keep := fun i h h' st k => by
    obtain ⟨hz, hTI, ⟨x, y, hTO⟩, h1, h2⟩ := st
    exact ⟨k z (by simp) _ hz, k TI (by simp) _ hTI, ⟨x, y, k TO (by simp) _ hTO⟩, D1.keep _ _ _ h1 fun o q => k i1 (by simp) o q, D2.keep _ _ _ h2 fun o q => k i2 (by simp) o q⟩
  item := by
    intro X hP hw hK hc i pins s σ H E I hf st hg
    obtain ⟨Pu, St, dd, k1, k2, k3⟩ := D1.draw X hP hw hK pins s σ H I hg.2.1
    obtain ⟨Pu2, St2, dd2, l1, l2, l3⟩ := D2.draw X hP hw hK pins s σ H I hg.2.2
    subst hP hw hK
    obtain ⟨hz, hTI, ⟨x0, y0, hTO⟩, h1, h2⟩ := st
    have hzl : z < s.heap.objs.size := Heap.lt_size hz
    refine wpAny_pyNext_zipD2_item S (dd X.A.in1 (I.ok.hd hc)) (dd2 X.A.in1 (I.ok.hd hc)) hz hTI hTO (k1 _ h1) (l1 _ h2) hg.1.1 hg.1.2 fun u u2 h' tk pu pu2 z' TO' h1' h2' hT hsz hk => ?_
    obtain ⟨x, hx, ru⟩ := k3 _ _ pu
    obtain ⟨y, hy, ru2⟩ := l3 _ _ pu2
    refine ⟨_, rfl, wpAny_letOwnedTupleGo_zip (s := { s with heap := h', toks := tk }) z' fun h'' z'' sb => ?_⟩
    have hT2 : h''.get? s.heap.objs.size = some { cls := .type "tuple", data := .seq #[u, u2] } := (sb.2 _ (Nat.ne_of_gt hzl)).trans hT
    have new : ObjOk X.prog X.w (upd H s.heap.objs.size (.tup [x, y])) h'' s.heap.objs.size (.tup [x, y]) :=
      ⟨by show 2 ≤ sizeLine; decide, [u, u2], .cons ru (.cons ru2 .nil), ⟨_, hT2, rfl, _, rfl⟩⟩
    have I1 : Inv X pins σ (upd H s.heap.objs.size (.tup [x, y])) { s with heap := h'', toks := tk } :=
      I.turnedNew (ch := [z, TI, TO, i1, i2]) (fun c o hb q => (sb.2 c (fun q' => hb (by simp [q']))).trans (hk c o (fun q' => hb (by simp [q'])) (fun q' => hb (by simp [q'])) (fun q' => hb (by simp [q'])) (fun q' => hb (by simp [q'])) q)) hf (Nat.le_refl _) new
    refine ⟨.ref s.heap.objs.size, _, I1, rfl, ⟨_, x, y, rfl, I.hok.fresh (Nat.le_refl _), rfl, hx, hy⟩, ⟨z'', ?_, ⟨u, u2, ?_⟩, ?_, ?_⟩, fun c hcm => ?_⟩
    · exact (sb.2 _ S.TIz).trans (hk _ _ S.TIz S.TITO S.TIi1 S.TIi2 hTI)
    · exact (sb.2 _ S.TOz).trans TO'
    · exact D1.keep _ _ _ (k2 _ _ h1') fun o q => (sb.2 _ (Ne.symm S.zi1)).trans q
    · exact D2.keep _ _ _ (l2 _ _ h2') fun o q => (sb.2 _ (Ne.symm S.zi2)).trans q
    · have hlt : c < s.heap.objs.size := by
        have e' : c = z ∨ c = TI ∨ c = TO ∨ c = i1 ∨ c = i2 := by simpa using hcm
        rcases e' with q | q | q | q | q
        · rw [q]; exact hzl
        · rw [q]; exact Heap.lt_size hTI
        · rw [q]; exact Heap.lt_size hTO
        · rw [q]; obtain ⟨_, e1, _⟩ := D1.obj _ _ h1; exact Heap.lt_size e1
        · rw [q]; obtain ⟨_, e2, _⟩ := D2.obj _ _ h2; exact Heap.lt_size e2
      rw [upd_ne (Nat.ne_of_lt hlt)]
      exact (hf c hcm).1
  done := by
    intro X hP hw hK hc i pins s σ H E I hf st hg
    obtain ⟨Pu, St, dd, k1, k2, k3⟩ := D1.draw X hP hw hK pins s σ H I hg.2.1
    obtain ⟨Pu2, St2, dd2, l1, l2, l3⟩ := D2.draw X hP hw hK pins s σ H I hg.2.2
    subst hP hw hK
    obtain ⟨hz, hTI, ⟨x0, y0, hTO⟩, h1, h2⟩ := st
    exact wpAny_pyNext_zipD2_end S (dd X.A.in1 (I.ok.hd hc)) (dd2 X.A.in1 (I.ok.hd hc)) hz hTI hTO (k1 _ h1) (l1 _ h2) hg.1.1 hg.1.2.1 hg.1.2.2 fun h' tk hk => ⟨rfl, I.turnedL (t' := tk) (ch := [z, TI, TO, i1, i2]) (fun c o hb q =>
      hk c o (fun q' => hb (by simp [q'])) (fun q' => hb (by simp [q'])) (fun q' => hb (by simp [q'])) (fun q' => hb (by simp [q'])) q) hf⟩
  self := fun A i s Q E st h => wpAny_pyIter_zip st.1 h
end
end Wk
set_option Elab.async false
set_option linter.all false
set_option maxRecDepth 100000
set_option maxHeartbeats 1000000
namespace Wk
open PySem PySem.Spec PyProof.Rows L2
/-- enumerate(v), v of any kind: its two cells -/
theorem meets_enumB {v : Value} {o : Obj} {Hv : Heap → Prop} (B : Begins v o Hv) :
    Meets (Builtin.«enumerate.__new__» ⟨[.type "enumerate", v], []⟩) (fun _ R s => Hv s.heap ∧
      R (.ok (.ret (.ref (s.heap.push o).objs.size))) { s with heap := (s.heap.push o).push { cls := .type "enumerate", data := .fields #[.none, .bool false, .ref s.heap.objs.size, rawInt 0, .none, .none] } }) :=
  .of_wp fun prog w A R s hh => by
    obtain ⟨hp, g, d, tk, os⟩ := s
    obtain ⟨hv, hr⟩ := hh
    have sube := sub_enumerate
    have qv : ∀ {A' : Around} {E : Value → Shared → Prop} {Q : Value → Shared → Prop}, Q (.ref hp.objs.size) ⟨hp.push o, g, d, tk, os⟩ → wpAny (model prog w) A' (pyIter v) Q E ⟨hp, g, d, tk, os⟩ :=
      fun q => B.iter prog w _ _ ⟨hp, g, d, tk, os⟩ _ hv q
    wp_walk using qv
    refine wpAny_stack_any fun st => wpAny_pure ?_
    split
    · rename_i c _ _ _ _ _
      cases (c == Value.type "enumerate") <;> (wp_walk using qv; exact ⟨_, rfl, hr⟩)
    · wp_walk using qv
      exact ⟨_, rfl, hr⟩
theorem enumB {prog : Program} {w : World} {A : Around} {E : Value → Shared → Prop} {s : Shared} {v : Value} {o : Obj} {Hv : Heap → Prop} {Q : Value → Shared → Prop} (B : Begins v o Hv) (h1 : Hv s.heap)
    (h : ∀ h', IsEnum h' (s.heap.objs.size + 1) s.heap.objs.size 0 .none → h'.get? s.heap.objs.size = some o → (∀ b o, s.heap.get? b = some o → h'.get? b = some o) → Q (.ref (s.heap.objs.size + 1)) { s with heap := h' }) :
    wpAny (model prog w) A (call (.type "enumerate") [v]) Q E s := by
  refine callType_new F.called_enumerate (by decide) (F.typeCall_enumerate_1 _) (F.newCall_enumerate_1 _) (fun obj => F.args_object_init_2 obj _) F.entry_enumerate_new (meets_enumB B) ⟨h1, ?_⟩
  have hz : (s.heap.push o).objs.size = s.heap.objs.size + 1 := Heap.size_push ..
  show _ ∧ _
  rw [hz]
  have he : IsEnum ((s.heap.push o).push { cls := .type "enumerate", data := .fields #[.none, .bool false, .ref s.heap.objs.size, rawInt 0, .none, .none] }) (s.heap.objs.size + 1) s.heap.objs.size 0 .none := by
    have q := Heap.get?_push_size (s.heap.push o) (o := { cls := .type "enumerate", data := .fields #[.none, .bool false, .ref s.heap.objs.size, rawInt 0, .none, .none] }) rfl
    rw [hz] at q
    exact q
  exact ⟨⟨_, he, rfl⟩, h _ he (Heap.get?_push_of_some _ (Heap.get?_push_size _ B.free)) fun b o x => Heap.get?_push_of_some _ (Heap.get?_push_of_some _ x)⟩
end Wk
set_option Elab.async false
set_option linter.all false
set_option maxRecDepth 100000
set_option maxHeartbeats 1000000
namespace Wk
open PySem PySem.Spec PyProof.Rows L2
/-- what is walked: its items, what must stand -/
def IsSrc (K : PySem.W.Frag) (H : Hp) (v : V) (G : Hp → Prop) (n : Nat) (ys : Nat → V → Prop) : Prop :=
  (∃ a xs, v = .ref a ∧ SqL K H a xs ∧ G = (fun H => SqL K H a xs) ∧ n = xs.length ∧ ys = fun i y => xs[i]? = some y) ∨
  (∃ a xs, v = .ref a ∧ SqT K H a xs ∧ G = (fun H => SqT K H a xs) ∧ n = xs.length ∧ ys = fun i y => xs[i]? = some y) ∨
  ∃ x, v = .str x ∧ G = (fun _ => True) ∧ n = x.cps.size ∧ ys = fun i y => ∃ c, x.cps[i]? = some c ∧ y = .str ⟨#[c]⟩
theorem src_starts {X : Cx} {pins : List (Addr × Obj)} {s : Shared} {σ : L2.St} {H : Hp} {v : V} {u : Value} {G : Hp → Prop} {n : Nat} {ys : Nat → V → Prop} (I : Inv X pins σ H s) (q : IsSrc X.K H v G n ys) (r : RelV v u) :
    ∃ (o : Obj) (Hv : Heap → Prop) (fp : List Addr), Begins u o Hv ∧ Hv s.heap ∧ (∀ b ∈ fp, b < s.heap.objs.size) ∧ ∀ it, s.heap.objs.size ≤ it → ∃ tn, Dr X.prog X.w X.K G (it :: fp) it n ys tn ∧ ∀ h', h'.get? it = some o → tn 0 h' := by
  rcases q with ⟨a, xs, rfl, hq, rfl, rfl, rfl⟩ | ⟨a, xs, rfl, hq, rfl, rfl, rfl⟩ | ⟨x, rfl, rfl, rfl, rfl⟩
  · cases r
    obtain ⟨its, rv, p, _⟩ := I.list hq
    have hp : s.heap.IsList a its.toArray := p.isList
    have hlt : a < s.heap.objs.size := p.lt
    exact ⟨_, _, [a], begins_list a its.toArray, hp, fun b hb => by rw [List.mem_singleton.mp hb]; exact hlt, fun it hit => ⟨_, dr_list (Nat.ne_of_lt (Nat.lt_of_lt_of_le hlt hit)) xs, fun h' e => ⟨_, e, rfl, rfl⟩⟩⟩
  · cases r
    obtain ⟨its, rv, p, _⟩ := I.tuple hq
    have hp : s.heap.IsTuple a its.toArray := p
    obtain ⟨o1, ho1, _⟩ := id hp
    have hlt : a < s.heap.objs.size := Heap.lt_size ho1
    exact ⟨_, _, [a], begins_tuple a its.toArray, hp, fun b hb => by rw [List.mem_singleton.mp hb]; exact hlt, fun it hit => ⟨_, dr_tup (Nat.ne_of_lt (Nat.lt_of_lt_of_le hlt hit)) xs, fun h' e => ⟨_, e, rfl, rfl⟩⟩⟩
  · obtain ⟨t, rfl⟩ := r
    exact ⟨_, _, [], begins_text x t, trivial, (fun b hb => nomatch hb), fun it hit => ⟨_, dr_str x t, fun h' e => ⟨_, e, rfl, rfl⟩⟩⟩
theorem pi_en {X : Cx} {e : Expr} {ta : TA} {p pos tpos : Pos} {elts : List Expr} {kk : Nat} (hg : Gl X "enumerate") (hm : X.mg "enumerate" = none) (ha : PA X [e] ta) (hs : starEach [e] X.env = [(false, eval e X.env)] := by rfl) :
    PI X (.Tuple elts kk tpos) (.Call (.Name "enumerate" p) [e] [] pos) (fun σ H R => ta σ H fun vs H1 => ∃ v G n ys, vs = [v] ∧ IsSrc X.K H1 v G n ys ∧ R (JEn G n ys) H1) := by
  refine ⟨fun pins s σ H R I h => ?_⟩
  refine Call_ (ld_blt I hg hm boot_enumerate (PyProof.Rows.callWith_type1 (thn (ha.run pos pins s σ H _ I h) fun us s1 ⟨vs, H1, I1, r1, q1⟩ => ?_) hs rfl))
  obtain ⟨v, G, n, ys, rfl, hq, q⟩ := q1
  cases r1 with
  | cons r rr =>
    cases rr
    obtain ⟨o, Hv, fp, B, hv, hfp, hit⟩ := src_starts I1 hq r
    refine enumB B hv fun h' he ho hk => wpAny_pyIter_enum he ?_
    have I2 : Inv X pins σ H1 { s1 with heap := h' } := I1.kept (t' := s1.toks) hk
    obtain ⟨tn, D, t0⟩ := hit s1.heap.objs.size (Nat.le_refl _)
    refine ⟨s1.heap.objs.size + 1, [s1.heap.objs.size + 1, s1.heap.objs.size], _, _, H1, rfl, I2, turn_en D (Nat.succ_ne_self _) (fun hb => ?_), ⟨⟨.none, he⟩, t0 h' ho⟩, fun b hb => ?_, q⟩
    · rcases List.mem_cons.mp hb with e | hb
      · exact Nat.succ_ne_self _ e
      · exact absurd (hfp _ hb) (Nat.not_lt.mpr (Nat.le_succ _))
    · have hle : s1.heap.objs.size ≤ b := by
        rcases (by simpa using hb : b = s1.heap.objs.size + 1 ∨ b = s1.heap.objs.size) with z | z <;> (rw [z]; first | exact Nat.le_refl _ | exact Nat.le_add_right _ _)
      exact I1.fpOk hle (I1.hok.fresh hle)
theorem pi_zi {X : Cx} {e e2 : Expr} {ta : TA} {p pos tpos : Pos} {elts : List Expr} {kk : Nat} (hg : Gl X "zip") (hm : X.mg "zip" = none) (ha : PA X [e, e2] ta)
    (hs : starEach [e, e2] X.env = (false, eval e X.env) :: starEach [e2] X.env := by rfl) (hpl : (backTo pos (starEach [e2] X.env)).any (·.1) = false := by rfl) :
    PI X (.Tuple elts kk tpos) (.Call (.Name "zip" p) [e, e2] [] pos) (fun σ H R => ta σ H fun vs H1 => ∃ v v2 G n ys G2 n2 ys2, vs = [v, v2] ∧ IsSrc X.K H1 v G n ys ∧ IsSrc X.K H1 v2 G2 n2 ys2 ∧ R (JZi G G2 n n2 ys ys2) H1) := by
  refine ⟨fun pins s σ H R I h => ?_⟩
  refine Call_ (ld_blt I hg hm PyProof.Rows.boot_zip (PyProof.Rows.callWith_type1 (thn (ha.run pos pins s σ H _ I h) fun us s1 ⟨vs, H1, I1, r1, q1⟩ => ?_) hs hpl))
  obtain ⟨v, v2, G, n, ys, G2, n2, ys2, rfl, hq, hq2, q⟩ := q1
  cases r1 with
  | cons r rr =>
    cases rr with
    | cons r' rr =>
      cases rr
      obtain ⟨o, Hv, fp, B, hv, hfp, hit⟩ := src_starts I1 hq r
      obtain ⟨o2, Hv2, fp2, B2, hv2, hfp2, hit2⟩ := src_starts I1 hq2 r'
      refine zip_begins2 B B2 hv hv2 fun h' hz hTI hTO ho ho2 hsz hk => wpAny_pyIter_zip hz ?_
      have I2 : Inv X pins σ H1 { s1 with heap := h' } := I1.kept (t' := s1.toks) hk
      obtain ⟨tn, D, t0⟩ := hit s1.heap.objs.size (Nat.le_refl _)
      obtain ⟨tn2, D2, t02⟩ := hit2 (s1.heap.objs.size + 1) (Nat.le_succ _)
      refine ⟨s1.heap.objs.size + 4, [s1.heap.objs.size + 4, s1.heap.objs.size + 2, s1.heap.objs.size + 3, s1.heap.objs.size, s1.heap.objs.size + 1], _, _, H1, rfl, I2, turn_zi D D2 (zip_sep2 hfp hfp2), ⟨hz, hTI, ⟨_, _, hTO⟩, t0 h' ho, t02 h' ho2⟩, fun b hb => ?_, q⟩
      have hle : s1.heap.objs.size ≤ b := by
        rcases (by simpa using hb : b = s1.heap.objs.size + 4 ∨ b = s1.heap.objs.size + 2 ∨ b = s1.heap.objs.size + 3 ∨ b = s1.heap.objs.size ∨ b = s1.heap.objs.size + 1) with z | z | z | z | z <;> (rw [z]; first | exact Nat.le_refl _ | exact Nat.le_add_right _ _)
      exact I1.fpOk hle (I1.hok.fresh hle)
/-! ### at the level of data -/
structure KpOk (kp : Addr → Hp → Hp → Prop) : Prop where
  ofSm : ∀ {ca : Addr} {c : Cup} {H H' : Hp}, Sm ca H H' → CupAt ca c H → kp ca H H'
  trans : ∀ {ca : Addr} {H H' H'' : Hp}, kp ca H H' → kp ca H' H'' → kp ca H H''
  fz : ∀ {ca : Addr} {c : Cup} {H H' : Hp}, kp ca H H' → CupAt ca c H → Fz H H'
theorem kf_ok : KpOk KF := ⟨fun s k => s.fz k, fun a b => Fz.trans a b, fun k _ => k⟩
theorem ks_ok : KpOk KS := ⟨fun s _ => s, fun a b => Sm.trans a b, fun k u => Sm.fz k u⟩
def SrcD (K : PySem.W.Frag) (ca : Addr) (kp : Addr → Hp → Hp → Prop) (H : Hp) (v : V) (ds : List D) : Prop :=
  ∃ G n ys, IsSrc K H v G n ys ∧ n = ds.length ∧ (∀ H', kp ca H H' → G H') ∧ ∀ i y, ys i y → ∃ d, ds[i]? = some d ∧ R K H y d
theorem srcD_sh {K : PySem.W.Frag} {ca : Addr} {kp : Addr → Hp → Hp → Prop} {H : Hp} {v : V} {d : D} {ds : List D} (hf : ∀ H', kp ca H H' → Fz H H') (r : R K H v d) (e : itemsOf d = some ds) : SrcD K ca kp H v ds := by
  unfold itemsOf at e
  split at e
  · cases e
    cases r with
    | lst h rr => exact ⟨_, _, _, .inl ⟨_, _, rfl, h.sq, rfl, rfl, rfl⟩, rr.len, fun H' k => (h.mono (hf H' k)).sq, fun i y hy => rr.get' hy⟩
  · cases e
    cases r with
    | tup h rr => exact ⟨_, _, _, .inr (.inl ⟨_, _, rfl, h, rfl, rfl, rfl⟩), rr.len, fun H' k => SqT.mono h (hf H' k), fun i y hy => rr.get' hy⟩
  · cases e
    cases r with
    | str _ h =>
      rename_i x
      refine ⟨_, _, _, .inr (.inr ⟨_, rfl, rfl, rfl, rfl⟩), by simp [cl], fun _ _ => trivial, fun i y ⟨c, hc, e⟩ => ?_⟩
      subst e
      have hc' : (cl x)[i]? = some c := by
        unfold cl
        rw [Array.getElem?_toList]
        exact hc
      refine ⟨ps [c], by rw [List.getElem?_map, hc']; rfl, .str _ (okS_of (fun n hn => ?_) (by simp))⟩
      have e : n = c := by simpa using hn
      subst e
      exact (okS_in h).1 n (List.mem_of_getElem? hc')
  · cases e
def KpFit (kp : Addr → Hp → Hp → Prop) (k : Kd) : Prop := ∀ {K : PySem.W.Frag} {ca : Addr} {c c1 : Cup} {He H H1 : Hp} {v : V} {d : D} {ds : List D}, RK K k He H H1 v d → He ca ≠ none → CupAt ca c H → CupAt ca c1 H1 → itemsOf d = some ds → SrcD K ca kp H1 v ds
theorem kf_fit : KpFit KF .sh := fun r _ _ _ e => srcD_sh (fun _ k => k) r e
theorem ks_fit (k : Kd) : KpFit KS k := fun {K ca c c1 He H H1 v d ds} r h0 hk u1 e => by
  rcases r.rb h0 hk with r | ⟨a, es, vs, rfl, rfl, n, h, rr⟩
  · exact srcD_sh (fun H' k => Sm.fz k u1) r e
  · cases e
    exact ⟨_, _, _, .inl ⟨_, _, rfl, .of h, rfl, rfl, rfl⟩, rr.len, fun H' k => .of (k _ _ n h), fun i y hy => rr.get' hy⟩
theorem IsSrc.at {K : PySem.W.Frag} {H H' : Hp} {v : V} {G : Hp → Prop} {n : Nat} {ys : Nat → V → Prop} (q : IsSrc K H v G n ys) (g : G H') : IsSrc K H' v G n ys := by
  rcases q with ⟨a, xs, e, hq, rfl, e2, e3⟩ | ⟨a, xs, e, hq, rfl, e2, e3⟩ | ⟨x, e, rfl, e2, e3⟩
  · exact .inl ⟨a, xs, e, g, rfl, e2, e3⟩
  · exact .inr (.inl ⟨a, xs, e, g, rfl, e2, e3⟩)
  · exact .inr (.inr ⟨x, e, rfl, e2, e3⟩)
/-- the items with their places -/
def enumD : Nat → List D → List D
  | _, [] => []
  | k, d :: r => .tuple [.int (k : Nat), d] :: enumD (k + 1) r
theorem enumD_len : ∀ (k : Nat) (ds : List D), (enumD k ds).length = ds.length
  | _, [] => rfl
  | k, d :: r => by show (enumD (k + 1) r).length + 1 = _; rw [enumD_len]; rfl
theorem enumD_get : ∀ (k : Nat) (ds : List D) (i : Nat), (enumD k ds)[i]? = ds[i]?.map fun d => .tuple [.int ((k + i : Nat) : Int), d]
  | _, [], i => by simp [enumD]
  | k, d :: r, 0 => rfl
  | k, d :: r, i + 1 => by
    show (enumD (k + 1) r)[i]? = _
    rw [enumD_get (k + 1) r i, List.getElem?_cons_succ, show k + 1 + i = k + (i + 1) by omega]
def zipD (a b : List D) : List D := List.zipWith (fun x y => .tuple [x, y]) a b
def sEnum (f : SE) : SA := fun Γ c => (f Γ c).bind fun p => (itemsOf p.1).map fun ds => (enumD 0 ds, p.2)
def sZip (f g : SE) : SA := fun Γ c => (f Γ c).bind fun p => (g Γ p.2).bind fun q => (itemsOf p.1).bind fun ds => (itemsOf q.1).map fun es => (zipD ds es, q.2)
section
variable {X : Cx} {z : Zs} {e e2 : Expr} {k k2 : Kd} {f g : SE} {p pos tpos : Pos} {elts : List Expr} {kk : Nat} {kp : Addr → Hp → Hp → Prop}
theorem pid_enumG (ok : KpOk kp) (hk : KpFit kp k) (he : PD X z e k f) (hm : X.mg "enumerate" = none) (hg : Gl X "enumerate" := by rfl) (hs : starEach [e] X.env = [(false, eval e X.env)] := by rfl) :
    PId X z kp (.Tuple elts kk tpos) (.Call (.Name "enumerate" p) [e] [] pos) (sEnum f) :=
  ⟨pi_imp (pi_en hg hm (pa_cons he.pe pa_nil (hs.trans rfl)) hs) fun σ H Q ⟨ca, He, Γ, c, ds, c', r, w, q⟩ => by
    obtain ⟨⟨d1, c1⟩, e1, w⟩ := bind_some' w
    obtain ⟨ds', e2, e3⟩ := Option.map_eq_some_iff.mp w
    cases e3
    refine ⟨ca, He, Γ, c, d1, _, r, e1, fun x H1 rx s1 u1 => ?_⟩
    obtain ⟨G, n, ys, hq, hn, hG, hy⟩ := hk rx r.hca r.cup u1 e2
    refine ⟨x, G, n, ys, rfl, hq, q _ H1 ⟨G, fun i H v H' => ∃ T y, v = .ref T ∧ H T = none ∧ H' = upd H T (.tup [.int (i : Nat), y]) ∧ ys i y, ⟨fun i H hi g => ⟨by rw [enumD_len] at hi; omega, g⟩, fun H g => ⟨by rw [enumD_len, hn], g⟩, fun i H x H' _ _ y => y⟩, hG, fun i H2 x2 H3 hi kq ⟨T, y, e5, nT, e6, hyy⟩ => ?_⟩ s1 u1⟩
    subst e5 e6
    obtain ⟨d, hd, rd⟩ := hy i y hyy
    have fz := ok.fz kq u1
    have fz2 : Fz H2 (upd H2 T (.tup [.int (i : Nat), y])) := fun a o h _ => by rw [upd_ne (ne_of_none h nT)]; exact h
    refine ⟨.tuple [.int (i : Nat), d], ?_, .tup (.of upd_same) (.cons (.int _) (.cons ((rd.mono fz).mono fz2) .nil)), fun a o h => by rw [upd_ne (ne_of_none h nT)]; exact h⟩
    rw [enumD_get, hd, Nat.zero_add]
    rfl⟩
theorem pid_enum (he : PD X z e .sh f) (hm : X.mg "enumerate" = none) (hg : Gl X "enumerate" := by rfl) (hs : starEach [e] X.env = [(false, eval e X.env)] := by rfl) : PId X z KF (.Tuple elts kk tpos) (.Call (.Name "enumerate" p) [e] [] pos) (sEnum f) := pid_enumG kf_ok kf_fit he hm hg hs
theorem pid_enumS (he : PD X z e k f) (hm : X.mg "enumerate" = none) (hg : Gl X "enumerate" := by rfl) (hs : starEach [e] X.env = [(false, eval e X.env)] := by rfl) : PId X z KS (.Tuple elts kk tpos) (.Call (.Name "enumerate" p) [e] [] pos) (sEnum f) := pid_enumG ks_ok (ks_fit k) he hm hg hs
theorem pid_zipG (ok : KpOk kp) (hk : KpFit kp k) (hk2 : KpFit kp k2) (he : PD X z e k f) (he2 : PD X z e2 k2 g) (hm : X.mg "zip" = none) (hg : Gl X "zip" := by rfl)
    (hs0 : starEach [e2] X.env = (false, eval e2 X.env) :: starEach [] X.env := by rfl) (hs : starEach [e, e2] X.env = (false, eval e X.env) :: starEach [e2] X.env := by rfl) (hpl : (backTo pos (starEach [e2] X.env)).any (·.1) = false := by rfl) :
    PId X z kp (.Tuple elts kk tpos) (.Call (.Name "zip" p) [e, e2] [] pos) (sZip f g) :=
  ⟨pi_imp (pi_zi hg hm (pa_cons he.pe (pa_cons he2.pe pa_nil hs0) hs) hs hpl) fun σ H Q ⟨ca, He, Γ, c, ds, c', r, w, q⟩ => by
    obtain ⟨⟨d1, c1⟩, e1, w⟩ := bind_some' w
    obtain ⟨⟨d2, c2⟩, e2, w⟩ := bind_some' w
    obtain ⟨ds1, e4, w⟩ := bind_some' w
    obtain ⟨ds2, e5, e3⟩ := Option.map_eq_some_iff.mp w
    cases e3
    refine ⟨ca, He, Γ, c, d1, _, r, e1, fun x H1 rx s1 u1 => ?_⟩
    refine ⟨ca, He, Γ, c1, d2, _, r.mono s1 u1, e2, fun x2 H2 rx2 s2 u2 => ?_⟩
    obtain ⟨G, n, ys, hq, hn, hG, hy⟩ := hk rx r.hca r.cup u1 e4
    obtain ⟨G2, n2, ys2, hq2, hn2, hG2, hy2⟩ := hk2 rx2 r.hca u1 u2 e5
    have k12 := ok.ofSm s2 u1
    refine ⟨x, x2, G, n, ys, G2, n2, ys2, rfl, hq.at (hG _ k12), hq2, q _ H2 ⟨fun H => G H ∧ G2 H, fun i H v H' => ∃ T x y, v = .ref T ∧ H T = none ∧ H' = upd H T (.tup [x, y]) ∧ ys i x ∧ ys2 i y,
      ⟨fun i H hi g => ⟨?_, g⟩, fun H g => ⟨?_, g⟩, fun i H x H' _ _ y => y⟩, fun H' k => ⟨hG H' (ok.trans k12 k), hG2 H' k⟩, fun i H3 x3 H4 hi kq ⟨T, y, y2, e5, nT, e6, hyy, hyy2⟩ => ?_⟩ (s1.trans s2) u2⟩
    · unfold zipD at hi
      rw [List.length_zipWith] at hi
      omega
    · unfold zipD
      rw [List.length_zipWith]
      omega
    · subst e5 e6
      obtain ⟨d, hd, rd⟩ := hy i y hyy
      obtain ⟨d', hd', rd'⟩ := hy2 i y2 hyy2
      have fz := ok.fz kq u2
      have fz2 : Fz H3 (upd H3 T (.tup [y, y2])) := fun a o h _ => by rw [upd_ne (ne_of_none h nT)]; exact h
      refine ⟨.tuple [d, d'], ?_, .tup (.of upd_same) (.cons (((rd.mono (ok.fz k12 u1)).mono fz).mono fz2) (.cons ((rd'.mono fz).mono fz2) .nil)), fun a o h => by rw [upd_ne (ne_of_none h nT)]; exact h⟩
      unfold zipD
      rw [List.getElem?_zipWith, hd, hd']⟩
theorem pid_zip (he : PD X z e .sh f) (he2 : PD X z e2 .sh g) (hm : X.mg "zip" = none) (hg : Gl X "zip" := by rfl)
    (hs0 : starEach [e2] X.env = (false, eval e2 X.env) :: starEach [] X.env := by rfl) (hs : starEach [e, e2] X.env = (false, eval e X.env) :: starEach [e2] X.env := by rfl) (hpl : (backTo pos (starEach [e2] X.env)).any (·.1) = false := by rfl) :
    PId X z KF (.Tuple elts kk tpos) (.Call (.Name "zip" p) [e, e2] [] pos) (sZip f g) := pid_zipG kf_ok kf_fit kf_fit he he2 hm hg hs0 hs hpl
theorem pid_zipS (he : PD X z e k f) (he2 : PD X z e2 k2 g) (hm : X.mg "zip" = none) (hg : Gl X "zip" := by rfl)
    (hs0 : starEach [e2] X.env = (false, eval e2 X.env) :: starEach [] X.env := by rfl) (hs : starEach [e, e2] X.env = (false, eval e X.env) :: starEach [e2] X.env := by rfl) (hpl : (backTo pos (starEach [e2] X.env)).any (·.1) = false := by rfl) :
    PId X z KS (.Tuple elts kk tpos) (.Call (.Name "zip" p) [e, e2] [] pos) (sZip f g) := pid_zipG ks_ok (ks_fit k) (ks_fit k2) he he2 hm hg hs0 hs hpl
end
end Wk
set_option Elab.async false
set_option linter.all false
set_option maxRecDepth 100000
set_option maxHeartbeats 1000000
namespace Wk
open PySem PySem.Spec PyProof.Rows L2
/-! ### x[::-1] -/
theorem adjust_rev (n : Nat) : Builtin.Slice.sliceAdjust none none (-1) (n : Int) = ((n : Int) - 1, -1) := rfl
theorem places_rev (n : Nat) : Builtin.Slice.slicePlaces ((n : Int) - 1) (-1) (-1) = n := by
  unfold Builtin.Slice.slicePlaces
  rw [if_neg (by decide)]
  by_cases h : (n : Int) - 1 > -1
  · rw [if_pos h, show (- -1 : Int) = 1 by decide, Int.ediv_one]
    omega
  · rw [if_neg h]
    omega
theorem fm_congr {α β : Type} {f g : α → Option β} : ∀ {l : List α}, (∀ x ∈ l, f x = g x) → l.filterMap f = l.filterMap g
  | [], _ => rfl
  | x :: r, h => by rw [List.filterMap_cons, List.filterMap_cons, h x List.mem_cons_self, fm_congr fun y hy => h y (List.mem_cons_of_mem _ hy)]
theorem pick_rev (xs : Array Value) : ((List.range xs.size).filterMap fun (m : Nat) => xs[((xs.size : Int) - 1 + (m : Int) * -1).toNat]?) = xs.toList.reverse := by
  have e : ((List.range xs.size).filterMap fun (m : Nat) => xs[((xs.size : Int) - 1 + (m : Int) * -1).toNat]?) = ((List.range xs.size).map fun k => xs.size - 1 - k).filterMap (xs[·]?) := by
    rw [List.filterMap_map]
    refine fm_congr fun m hm => ?_
    have := List.mem_range.mp hm
    show xs[((xs.size : Int) - 1 + (m : Int) * -1).toNat]? = xs[xs.size - 1 - m]?
    congr 1
    omega
  rw [e, PySem.W.krv_range, List.filterMap_reverse, PySem.W.krv_all]
section
variable {prog : Program} {w : World} {A : Around} {E : Value → Shared → Prop} {s : Shared}
theorem applied_rev {sl : Addr} {vl vu vs : Value} {n : Nat} {Q : Int × Int × Nat → Shared → Prop} (hs : s.heap.IsSliceOf sl vl vu vs) (pl : IsPart vl none) (pu : IsPart vu none) (ps : IsPart vs (some (-1)))
    (h : Q ((n : Int) - 1, -1, n) s) : wpAny (model prog w) A (Builtin.Slice.sliceApplied (.ref sl) (pure (n : Int))) Q E s := by
  obtain ⟨os, hos, hcs, hds⟩ := id hs
  unfold Builtin.Slice.sliceApplied Builtin.Slice.sliceFields
  refine wpAny_bind (wpAny_bind (wpAny_field hos hds (x := vl) rfl (wpAny_bind (wpAny_field hos hds (x := vu) rfl (wpAny_bind (wpAny_field hos hds (x := vs) rfl (wpAny_pure ?_)))))))
  refine wpAny_bind (HT.slicePart_ ps ?_)
  show wpAny _ _ (if ((-1 : Int) == 0) = true then _ else _) _ _ s
  rw [if_neg (by decide)]
  refine wpAny_bind (HT.slicePart_ pl (wpAny_bind (HT.slicePart_ pu (wpAny_bind (wpAny_pure ?_)))))
  show wpAny _ _ (pure ((n : Int) - 1, (-1 : Int), Builtin.Slice.slicePlaces ((n : Int) - 1) (-1) (-1))) _ _ s
  rw [places_rev]
  exact wpAny_pure h
theorem getItem_tuple_rev {t sl : Addr} {items : Array Value} {vl vu vs : Value} {Q : Value → Shared → Prop} (ht : IsTup s.heap t items) (hs : s.heap.IsSliceOf sl vl vu vs) (pl : IsPart vl none) (pu : IsPart vu none) (ps : IsPart vs (some (-1)))
    (h : Q (.ref s.heap.objs.size) { s with heap := s.heap.push { cls := .type "tuple", data := .seq items.toList.reverse.toArray } })
    (hsz : items.size ≤ sizeLine) : wpAny (model prog w) A (getItem (.ref t) (.ref sl)) Q E s := by
  have hok : sizeOk (.seq items.toList.reverse.toArray) := by
    show items.toList.reverse.toArray.size ≤ sizeLine
    rw [List.size_toArray, List.length_reverse, Array.length_toList]
    exact hsz
  obtain ⟨os, hos, hcs, hds⟩ := id hs
  have hTs : s.TypeIs (.ref sl) "slice" := ⟨os, hos, hcs⟩
  unfold getItem
  try with_reducible refine wpAny_holding ?_
  first | refine wpAny_bind (wpAny_pure ?_) | skip
  refine wpAny_bind (wpAny_sequenceKey ht.typeIs (by decide) ?_)
  refine wpAny_bind (wpAny_callSpecial?_slot (name := Str.ofString "__getitem__") ht.typeIs PyProof.Rows.slot_tuple_getitem
    (wpAny_call_entry PyProof.Rows.slot_tuple_getitem ht.typeIs entry_tuple_getitem ?_ (args_tuple_getitem _ _)))
  show wpAny _ _ (Builtin.Tuple.tupleItemsOf (.ref t) >>= _) _ _ s
  refine wpAny_bind (tupleItemsOf_ ht (wpAny_bind (wpAny_typeOf hTs ?_)))
  rw [if_pos (by decide)]
  refine wpAny_bind (applied_rev hs pl pu ps ?_)
  have hno : ¬ ((((items.size : Int) - 1) == 0 && (-1 : Int) == 1 && items.size == items.size) = true) := by
    intro q
    rw [Bool.and_eq_true, Bool.and_eq_true] at q
    exact absurd q.1.2 (by decide)
  show wpAny _ _ (if (((items.size : Int) - 1) == 0 && (-1 : Int) == 1 && items.size == items.size) = true then _ else _) _ _ s
  rw [if_neg hno, pick_rev]
  first
    | exact wpAny_bind (m := Builtin.Tuple.tupleExact _) (wpAny_newObj_type (wpAny_pure ⟨_, rfl, wpAny_pure h⟩) hok)
    | exact wpAny_bind (m := Builtin.Tuple.tupleExact _) (wpAny_newObj_type (wpAny_bind (wpAny_pure (wpAny_pure ⟨_, rfl, wpAny_pure h⟩))) hok)
    | exact wpAny_bind (wpAny_bind (m := Builtin.Tuple.tupleExact _) (wpAny_newObj_type (wpAny_pure (wpAny_pure ⟨_, rfl, wpAny_pure h⟩)) hok))
    | exact wpAny_bind (wpAny_bind (m := Builtin.Tuple.tupleExact _) (wpAny_newObj_type (wpAny_pure ⟨_, rfl, wpAny_pure h⟩) hok))
end
def tRevA (K : PySem.W.Frag) (te : TE) : TE := fun σ H Q => te σ H fun x H1 => (∃ a xs, x = .ref a ∧ SqL K H1 a xs ∧ ∀ p, H1 p = none → Q (.ref p) (upd H1 p (.lst xs.reverse))) ∨
  (∃ a xs, x = .ref a ∧ SqT K H1 a xs ∧ ∀ p, H1 p = none → Q (.ref p) (upd H1 p (.tup xs.reverse))) ∨ ∃ x', x = .str x' ∧ x'.length ≤ sizeLine ∧ Q (.str ⟨x'.cps.toList.reverse.toArray⟩) H1
theorem str_rev (x : Str) : ((Builtin.Str.strSliceIndices none none (-1) x.length).filterMap (x.cps[·]?)).toArray = x.cps.toList.reverse.toArray := by
  rw [picked_rev, PySem.W.krv_range, List.filterMap_reverse]
  congr 2
  exact PySem.W.krv_all x.cps
theorem pe_revA {X : Cx} {e : Expr} {te : TE} {k : Nat} {p1 p2 p3 pos : Pos} (he : PE X e te) : PE X (.Subscript e (.Slice none none (some (.UnaryOp .USub (.Constant (.int 1) k p1) p2)) p3) pos) (tRevA X.K te) := by
  refine ⟨fun pins s σ H Q I h => ?_⟩
  refine Subscript_ (thn (he.run pins s σ H _ I h) fun v s1 ⟨x, H1, I1, r1, q1⟩ => ?_)
  have hst : PO X (some (.UnaryOp .USub (.Constant (.int 1) k p1) p2)) (tPart (tUn (rU fun i => .int (-i)) (tC (.int 1)))) := po_some (pe_un un_neg pe_int)
  refine wpAny_Slice (thn (po_none.run pins s1 σ H1 (fun o H2 => o = none ∧ H2 = H1) I1 ⟨rfl, rfl⟩) fun vl s2 ⟨l, H2, I2, pl, el, e2⟩ => ?_)
  subst el e2
  refine thn (po_none.run pins s2 σ H2 (fun o H3 => o = none ∧ H3 = H2) I2 ⟨rfl, rfl⟩) fun vu s3 ⟨u, H3, I3, pu, eu, e3⟩ => ?_
  subst eu e3
  refine thn (hst.run pins s3 σ H3 (fun o H4 => o = some (-1) ∧ H4 = H3) I3 ⟨1, rfl, -1, rfl, rfl, rfl⟩) fun vs s4 ⟨o, H4, I4, ps, eo, e4⟩ => ?_
  subst eo e4
  have I5 : Inv X pins σ H4 { s4 with heap := s4.heap.push { cls := .type "slice", data := .fields #[vl, vu, vs] } } := I4.kept (t' := s4.toks) fun b ob q => Heap.get?_push_of_some _ q
  show wpAny (model X.prog X.w) X.A (subscriptTail e (.Slice none none (some (.UnaryOp .USub (.Constant (.int 1) k p1) p2)) p3) v (.ref s4.heap.objs.size)) (EP X pins σ Q) X.xe { s4 with heap := s4.heap.push { cls := .type "slice", data := .fields #[vl, vu, vs] } }
  rcases q1 with ⟨a, xs, ex, hx, q⟩ | ⟨a, xs, ex, hx, q⟩ | ⟨x', ex, hz, q⟩
  · subst ex
    cases r1
    obtain ⟨its, r, ht, hz⟩ := I5.list hx
    have hlen := r.length
    refine tail_any (ops := [.ref a, .ref s4.heap.objs.size]) ht.isList.typeIs (PySem.slot_list_getitem.lookup) ?_ (by with_unfolding_all rfl)
    refine wpAny_getItem_list_slice ht.isList (Heap.IsSliceOf.new _ vl vu vs) pl pu ps (by decide) ?_ (by rw [List.size_toArray]; omega)
    rw [PySem.W.krv_pick]
    refine ⟨.ref _, _, I5.laid (t' := s4.toks) (o := .lst xs.reverse) (fun b ob q => Heap.get?_push_of_some _ q) (Nat.le_refl _) ?_, rfl, q _ (I5.hok.fresh (Nat.le_refl _))⟩
    exact ⟨by rw [List.length_reverse]; exact hz, _, 0, r.reverse, Heap.get?_push_size _ rfl⟩
  · subst ex
    cases r1
    obtain ⟨its, r, ht, hz⟩ := I5.tuple hx
    have hlen := r.length
    refine tail_any (ops := [.ref a, .ref s4.heap.objs.size]) ht.typeIs (PyProof.Rows.slot_tuple_getitem.lookup) ?_ (by with_unfolding_all rfl)
    refine getItem_tuple_rev ht (Heap.IsSliceOf.new _ vl vu vs) pl pu ps ?_ (by rw [List.size_toArray]; omega)
    refine ⟨.ref _, _, I5.laid (t' := s4.toks) (o := .tup xs.reverse) (fun b ob q => Heap.get?_push_of_some _ q) (Nat.le_refl _) ?_, rfl, q _ (I5.hok.fresh (Nat.le_refl _))⟩
    exact ⟨by rw [List.length_reverse]; exact hz, _, r.reverse, IsTup.new _ _⟩
  · subst ex
    obtain ⟨t, rfl⟩ := r1
    refine tail_any (ops := [.str x' t, .ref s4.heap.objs.size]) (typeIs_str _ _ _) (F.slot_str_getitem.lookup) ?_ (by with_unfolding_all rfl)
    obtain ⟨os, hos, hcs, hds⟩ := Heap.IsSliceOf.new s4.heap vl vu vs
    obtain ⟨l, rfl, hl⟩ := IsPart.raw pl
    obtain ⟨u, rfl, hu⟩ := IsPart.raw pu
    obtain ⟨st, rfl, hst⟩ := IsPart.raw ps
    cases l with
    | some _ => cases hl
    | none =>
      cases u with
      | some _ => cases hu
      | none =>
        cases st with
        | none => cases hst
        | some st =>
          obtain ⟨st, tk⟩ := st
          have e1 : st = -1 := Option.some.inj hst
          subst e1
          refine wpAny_getItem_str_slice (l := none) (u := none) (st := some (-1, tk)) ⟨os, hos, hcs, hds⟩ rfl ?_
          show Made.post (if (((-1 : Int) == 1) && (Builtin.Str.strSliceIndices none none (-1) x'.length).length == x'.length) = true then Made.val (.str x' t)
            else Made.str ⟨((Builtin.Str.strSliceIndices none none (-1) x'.length).filterMap (x'.cps[·]?)).toArray⟩) (EP X pins σ Q) _
          rw [if_neg (by rw [show ((-1 : Int) == 1) = false from rfl]; simp), str_rev]
          refine ⟨?_, .str _, H4, I5.tok _, ⟨_, rfl⟩, q⟩
          show x'.cps.toList.reverse.toArray.size ≤ sizeLine
          rw [List.size_toArray, List.length_reverse, Array.length_toList]
          exact hz
def bRev : D → Option D
  | .list ds => some (.list ds.reverse)
  | .tuple ds => some (.tuple ds.reverse)
  | .str s => some (ps (cl s).reverse)
  | _ => none
theorem Rs.rev {K : PySem.W.Frag} {H : Hp} : ∀ {vs : List V} {ds : List D}, Rs K H vs ds → Rs K H vs.reverse ds.reverse
  | _, _, .nil => .nil
  | _, _, .cons r rr => by
    rw [List.reverse_cons, List.reverse_cons]
    exact rr.rev.app (.cons r .nil)
theorem pd_rev {X : Cx} {z : Zs} {e : Expr} {f : SE} {k : Kd} {kk : Nat} {p1 p2 p3 pos : Pos} (he : PD X z e k f) : PD X z (.Subscript e (.Slice none none (some (.UnaryOp .USub (.Constant (.int 1) kk p1) p2)) p3) pos) .fr (sU bRev f) :=
  ⟨pe_imp (pe_revA he.pe) fun σ H Q ⟨ca, He, Γ, c, d, c', r, e, q⟩ => by
    obtain ⟨⟨dx, c1⟩, e1, e⟩ := bind_some' e
    obtain ⟨d', e4, e5⟩ := Option.map_eq_some_iff.mp e
    cases e5
    refine ⟨ca, He, Γ, c, dx, _, r, e1, fun x H1 rx s1 u1 => ?_⟩
    have rx1 := rx.rb r.hca r.cup
    have fin : ∀ v H', RK X.K .fr He H1 H' v d → Sm ca H1 H' → CupAt ca c1 H' → Q v H' := fun v H' rv s' u' => q v H' (rv.step s1 u1) (s1.trans s') u'
    simp only at e4
    unfold bRev at e4
    split at e4
    · cases e4
      obtain ⟨a, vs, e2, hh, rr⟩ := rx1.list
      exact .inl ⟨a, vs, e2, .inl hh, fun p hp => fin _ _ (rk_new hp rr.rev u1) (.new hp) (u1.new hp)⟩
    · cases e4
      obtain ⟨a, vs, e2, hh, rr⟩ := rx1.tup
      exact .inr (.inl ⟨a, vs, e2, hh, fun p hp => fin _ _ (.inl (rk_tup hp rr.rev u1)) (.new hp) (u1.new hp)⟩)
    · cases e4
      obtain ⟨e2, o1⟩ := rx1.str
      refine .inr (.inr ⟨_, e2, by rw [sizeLine_is]; exact okS.le o1, fin _ _ (.inl (.str _ (okS_of (fun n hn => (okS_in o1).1 n (List.mem_reverse.mp hn)) ?_))) (.refl _) u1⟩)
      rw [List.length_reverse]
      exact (okS_in o1).2
    · cases e4⟩
end Wk
set_option Elab.async false
set_option linter.all false
set_option maxRecDepth 100000
set_option maxHeartbeats 1000000
namespace Wk
open PySem PySem.Spec PyProof.Rows L2
/-! ### sorted(x), x a list or a tuple -/
section
variable {prog : Program} {w : World} {A : Around} {E : Value → Shared → Prop} {s : Shared}
theorem collect_tup {t : Addr} {vs : List Value} {Q : List Value → Shared → Prop} (ht : s.heap.IsTuple t vs.toArray)
    (h : Q vs { s with heap := (s.heap.push (seqObj "list" #[] 0)).update s.heap.objs.size (Obj.mapSeq (· ++ vs.toArray)) }) (hz : vs.length ≤ sizeLine) :
    wpAny (model prog w) A (collect (.ref t)) Q E s := by
  obtain ⟨o, ho, hc, n, hd⟩ := id ht
  unfold collect
  refine wpAny_bind (wpAny_runValue (codeAny_builtin entry_proto_collect' ?_))
  show wpAny _ _ (do again (.builtin "list.__iadd__" ⟨[← newList [], .ref t], []⟩)) _ _ s
  refine wpAny_bind (wpAny_newList (wpAny_pure ⟨Code.quiet_builtin _ (by decide +kernel), codeAny_builtin entry_list_iadd' ?_⟩))
  show wpAny _ _ (Builtin.List.listExtendWith (.ref s.heap.objs.size) (.ref t) (.ref s.heap.objs.size)) _ _ { s with heap := s.heap.push (seqObj "list" #[] 0) }
  unfold Builtin.List.listExtendWith
  have ho2 : (s.heap.push (seqObj "list" #[] 0)).get? t = some o := Heap.get?_push_of_some _ ho
  refine wpAny_bind (wpAny_typeOf (T := "tuple") ⟨o, ho2, hc⟩ ?_)
  have hb : (Value.type "tuple" == Value.type "tuple") = true := by rfl
  rw [if_pos (by rw [hb]; simp)]
  refine wpAny_bind (listItems_at ho2 hd (wpAny_bind (listItems_at (xs := #[]) (n := 0) (Heap.get?_push_size _ rfl) rfl ?_)))
  rw [if_neg (by simp)]
  refine wpAny_bind (listUpdate_at (xs := #[]) (n := 0) (Heap.get?_push_size _ rfl) rfl (wpAny_pure ?_) (Nat.zero_le _) (by show (#[] ++ vs.toArray).size ≤ sizeLine + 1; simp only [Array.size_append, List.size_toArray, List.length_nil]; omega))
  show wpAny (model prog w) A (do
      let o ← load s.heap.objs.size
      match o.data with
      | .seq xs _ => pure xs.toList
      | _ => unsupported "internal:collect") Q E _
  refine wpAny_bind (wpAny_load (get?_update_seq (Heap.get?_push_size _ rfl) _) ?_)
  show wpAny _ _ (pure ((#[] : Array Value) ++ vs.toArray).toList) Q E _
  rw [show ((#[] : Array Value) ++ vs.toArray).toList = vs by simp]
  exact wpAny_pure h
end
end Wk
namespace Wk.So
open PySem PySem.Spec PyProof.Rows PySem.W PySem.Calls
section
variable {prog : Program} {w : World} {A : Around} {E : Value → Shared → Prop} {s : Shared} {β : Type} {vs : List Value} {bs : List β} {enc : β → PyData} {R : Value → β → Prop}
theorem sorted_tup {t : Addr} {Q : Value → Shared → Prop} (ht : s.heap.IsTuple t vs.toArray) (e : EachIs R vs bs) (er : EachIs (fun v b => ∃ as, Reads s.heap v (enc b) as) vs bs) (hal : AllAlike (bs.map enc)) (hk : Sortable (bs.map enc)) (hL : bs.length ≤ sizeLine)
    (hu : ∀ b, b ∈ bs → A.units + 2 + (enc b).depth < cLine) (h : ∀ out, out.length = bs.length → EachIs R out (bs.mergeSort (dataLe false enc)) → Q (.ref (s.heap.objs.size + 1)) { s with heap := sortedAll s.heap vs (List.toArray out) }) :
    wpAny (model prog w) A (call (.builtin "sorted") [.ref t]) Q E s := by
  have hV : vs.length ≤ sizeLine := by rw [e.length]; exact hL
  have er' : EachIs (fun v b => ∃ as, Reads (sortingHeap (copyHeap s.heap vs) (s.heap.objs.size + 1) vs) v (enc b) as) vs bs := er.mono fun _ _ ⟨as, r⟩ => ⟨as, PyProof.Rows.Reads.keeps (fun _ _ => sorting_copy_old) r⟩
  have S := SortsAt.data (prog := prog) (w := w) (A := A.in1.in1) (s := { s with heap := sortingHeap (copyHeap s.heap vs) (s.heap.objs.size + 1) vs }) (each_map (R := fun v d => ∃ as, Reads (sortingHeap (copyHeap s.heap vs) (s.heap.objs.size + 1) vs) v d as) enc er') hal hk (bound_map hu)
  have hq := h _ (by rw [sortVals_length false rfl]; exact e.length) (sortVals_data false e er' hal)
  refine call_function_entry_kw kind_sorted plain_sorted entry_sorted (args_sorted1 _) ?_
  unfold Builtin.«sorted»
  refine wpAny_bind (m := checkCount "sorted" 1 1 _) (wpAny_pure (wpAny_bind (collect_tup ht (wpAny_bind (wpAny_newList ?_ hV)) hV)))
  have hsz : ((s.heap.push (seqObj "list" #[] 0)).update s.heap.objs.size (Obj.mapSeq (· ++ vs.toArray))).objs.size = s.heap.objs.size + 1 := by rw [Heap.size_update, size_push']
  show wpAny _ _ _ _ _ { s with heap := copyHeap s.heap vs }
  rw [hsz]
  refine wpAny_bind (wpAny_holding (wpAny_call_entry_kw slot_list_sort ⟨_, copyHeap_at s.heap vs, rfl⟩ entry_list_sort ?body (args_list_sort _)))
  case body =>
    show wpAny (model prog w) A.in1.in1 (Builtin.«list.sort» ⟨[.ref (s.heap.objs.size + 1)], []⟩) _ _ _
    have b : ∀ E' : Value → Shared → Prop, wpAny (model prog w) A.in1.in1 (Builtin.«list.sort» ⟨[.ref (s.heap.objs.size + 1)], []⟩) (fun f s' => f = .done (.ret .none) ∧ Q (.ref (s.heap.objs.size + 1)) s') E' { s with heap := copyHeap s.heap vs } :=
      fun E' => list_sort_vals (s := { s with heap := copyHeap s.heap vs }) (copyHeap_at s.heap vs) S hV ⟨rfl, hq⟩
    refine wpAny_mono (b _) (fun f s' hf => ?_) fun _ _ e => e
    obtain ⟨rfl, hq⟩ := hf
    exact ⟨_, rfl, wpAny_pure ⟨_, rfl, hq⟩⟩
end
end Wk.So
namespace Wk
open PySem PySem.Spec PyProof.Rows L2
def okSort (ds : List D) : Bool := ds.all (fun d => ds.all fun d' => PySem.W.alike d d') && (ds.all (fun d => match d with | .tuple (_ :: _) => true | _ => false) || ds.all (fun d => match d with | .none => false | .tuple _ => false | _ => true)) && decide (ds.length ≤ 16777216) && ds.all fun d => decide (d.depth ≤ 60)
def sortD (ds : List D) : List D := ds.mergeSort (PySem.W.dataLe false id)
def bSorted : D → Option D
  | .list ds => if okSort ds then some (.list (sortD ds)) else none
  | .tuple ds => if okSort ds then some (.list (sortD ds)) else none
  | _ => none
theorem okSort_spec {ds : List D} (h : okSort ds = true) : PySem.W.AllAlike ds ∧ PySem.W.Sortable ds ∧ ds.length ≤ 16777216 ∧ ∀ d ∈ ds, d.depth ≤ 60 := by
  unfold okSort at h
  simp only [Bool.and_eq_true, Bool.or_eq_true, List.all_eq_true, decide_eq_true_eq] at h
  obtain ⟨⟨⟨h1, h2⟩, h3⟩, h4⟩ := h
  refine ⟨fun d hd d' hd' => h1 d hd d' hd', ?_, h3, h4⟩
  rcases h2 with h2 | h2
  · refine .inl fun d hd => ?_
    have := h2 d hd
    split at this
    · exact ⟨_, _, rfl⟩
    · cases this
  · refine .inr fun d hd => ?_
    have := h2 d hd
    split at this
    · cases this
    · cases this
    · rename_i n1 n2
      exact ⟨n1, n2⟩
def rSortD (K : PySem.W.Frag) : List V → Hp → VK → Prop := fun vs H Q => ∃ a xs ds, vs = [.ref a] ∧ (SqL K H a xs ∨ SqT K H a xs) ∧ Rs K H xs ds ∧ okSort ds = true ∧ ∀ p ys, H p = none → Rs K H ys (sortD ds) → Q (.ref p) (upd H p (.lst ys))
theorem eachIs_pairs {α β γ : Type} {P : α → γ → Prop} : ∀ {us : List α} {xs : List γ} {ds : List β}, xs.length = ds.length → us.length = xs.length → (∀ (i : Nat) (u : α) (x : γ), us[i]? = some u → xs[i]? = some x → P u x) → PySem.W.EachIs (fun u (b : γ × β) => P u b.1) us (xs.zip ds)
  | [], [], [], _, _, _ => .nil
  | u :: us, x :: xs, d :: ds, h1, h2, h => .cons (h 0 u x rfl rfl) (eachIs_pairs (by simpa using h1) (by simpa using h2) fun i u x hu hx => h (i + 1) u x hu hx)
  | [], _ :: _, _, _, h, _ => by simp at h
  | _ :: _, [], _, _, h, _ => by simp at h
  | _, [], _ :: _, h, _, _ => by simp at h
  | _, _ :: _, [], h, _, _ => by simp at h
theorem rs_pairs {K : PySem.W.Frag} {H : Hp} : ∀ {ps : List (V × D)}, (∀ p ∈ ps, R K H p.1 p.2) → Rs K H (ps.map Prod.fst) (ps.map Prod.snd)
  | [], _ => .nil
  | p :: r, h => .cons (h p List.mem_cons_self) (rs_pairs fun q hq => h q (List.mem_cons_of_mem _ hq))
theorem vals_each {γ : Type} {f : γ → V} : ∀ {us : List Value} {bs : List γ}, PySem.W.EachIs (fun u b => RelV (f b) u) us bs → Vals (bs.map f) us
  | _, _, .nil => .nil
  | _, _, .cons h hh => .cons h (vals_each hh)
theorem cr_sortD {X : Cx} {k : Nat} (hr : Room k X.A) : CallR X (.builtin "sorted") (rSortD X.K) := by
  intro pins s σ H vs us Q I r h
  obtain ⟨a, xs, ds, rfl, hs, rr, hok, q⟩ := h
  obtain ⟨hal, hk, hL, hdep⟩ := okSort_spec hok
  have hu : ∀ d ∈ ds, X.A.units + 2 + d.depth < cLine := fun d hd => by
    have := u65 hr
    have := hdep d hd
    omega
  have key : ∀ its : List Value, Vals xs its → (∀ Qv : Value → Shared → Prop, ∀ bs : List (V × D), PySem.W.EachIs (fun u (b : V × D) => RelV b.1 u) its bs → PySem.W.EachIs (fun v (b : V × D) => ∃ as, Reads s.heap v b.2 as) its bs → PySem.W.AllAlike (bs.map Prod.snd) → PySem.W.Sortable (bs.map Prod.snd) → bs.length ≤ sizeLine →
      (∀ b, b ∈ bs → X.A.units + 2 + b.2.depth < cLine) → (∀ out, out.length = bs.length → PySem.W.EachIs (fun u (b : V × D) => RelV b.1 u) out (bs.mergeSort (PySem.W.dataLe false Prod.snd)) → Qv (.ref (s.heap.objs.size + 1)) { s with heap := sortedAll s.heap its (List.toArray out) }) →
      wpAny (model X.prog X.w) X.A (call (.builtin "sorted") [.ref a]) Qv X.xe s) → wpAny (model X.prog X.w) X.A (call (.builtin "sorted") [.ref a]) (EP X pins σ Q) X.xe s := by
    intro its rv road
    have hlen : xs.length = ds.length := rr.len
    have hlen2 : its.length = xs.length := rv.length.symm
    have hsnd : (xs.zip ds).map Prod.snd = ds := by rw [List.map_snd_zip]; omega
    refine road _ (xs.zip ds) ?_ ?_ (by rw [hsnd]; exact hal) (by rw [hsnd]; exact hk) (by rw [List.length_zip, sizeLine_is]; omega) (fun b hb => hu _ (List.of_mem_zip (a := b.1) (b := b.2) hb).2) fun out ho eo => ?_
    · exact eachIs_pairs hlen hlen2 fun i u x hu hx => by
        obtain ⟨u', e1, r1⟩ := rv.get hx
        rw [hu] at e1
        cases e1
        exact r1
    · have h1 : PySem.W.EachIs (fun u (b : V × D) => RelV b.1 u) its (xs.zip ds) := eachIs_pairs hlen hlen2 fun i u x hu hx => by
        obtain ⟨u', e1, r1⟩ := rv.get hx
        rw [hu] at e1
        cases e1
        exact r1
      exact (PySem.W.each_mem h1).mono fun v b ⟨rb, hb⟩ => Dp.reads I b.2 b.1 v ((rr.zip b hb).dp) rb
    · have hsort : ((xs.zip ds).mergeSort (PySem.W.dataLe false Prod.snd)).map Prod.snd = sortD ds := by
        have hm := List.map_mergeSort (r := PySem.W.dataLe false (Prod.snd : V × D → D)) (s := PySem.W.dataLe false id) (f := Prod.snd) (l := xs.zip ds) (fun a _ b _ => rfl)
        rw [hm, hsnd]
        rfl
      have hmem : ∀ p ∈ (xs.zip ds).mergeSort (PySem.W.dataLe false Prod.snd), R X.K H p.1 p.2 := fun p hp => rr.zip p (List.mem_mergeSort.mp hp)
      have hr2 := rs_pairs hmem
      rw [hsort] at hr2
      have hv := vals_each eo
      obtain ⟨ep, he'⟩ := PyProof.Rows.sortedAll_at s.heap its out.toArray
      refine ⟨.ref _, upd H (s.heap.objs.size + 1) (.lst (((xs.zip ds).mergeSort (PySem.W.dataLe false Prod.snd)).map Prod.fst)), I.laid (t' := s.toks) (fun _ _ => PyProof.Rows.sortedAll_old) (Nat.le_succ _) ⟨?_, out, ep, hv, he'⟩, rfl, q _ _ (I.hok.fresh (Nat.le_succ _)) hr2⟩
      rw [List.length_map, List.length_mergeSort, List.length_zip, sizeLine_is]
      omega
  rw [Vals.ref1 r]
  rcases hs with hs | hs
  · obtain ⟨its, rv, hl, hz⟩ := I.list hs
    exact key its rv fun Qv bs e er h1 h2 h3 h4 h5 => PySem.W.sorted_data (enc := Prod.snd) hl.isList e er h1 h2 h3 h4 h5
  · obtain ⟨its, rv, hl, hz⟩ := I.tuple hs
    exact key its rv fun Qv bs e er h1 h2 h3 h4 h5 => So.sorted_tup (enc := Prod.snd) hl e er h1 h2 h3 h4 h5
theorem b_sorted {X : Cx} {k : Nat} (hc : X.calm = true) (hr : Room k X.A) : Cb1 X .nw (.builtin "sorted") bSorted := by
  refine ⟨_, cr_sortD hr, fun ca c He H x dx d Q rx e u q => ?_⟩
  unfold bSorted at e
  split at e
  · split at e
    · rename_i hok
      cases e
      obtain ⟨l, vs, e1, h1, r1⟩ := rx.list
      exact ⟨l, vs, _, by rw [e1], .inl (.inl h1), r1, hok, fun p ys hp ry => q _ _ (rk_newN hp ry u) (.new hp) (u.new hp)⟩
    · cases e
  · split at e
    · rename_i hok
      cases e
      obtain ⟨l, vs, e1, h1, r1⟩ := rx.tup
      exact ⟨l, vs, _, by rw [e1], .inr h1, r1, hok, fun p ys hp ry => q _ _ (rk_newN hp ry u) (.new hp) (u.new hp)⟩
    · cases e
  · cases e
end Wk
set_option Elab.async false
set_option linter.all false
set_option maxRecDepth 100000
set_option maxHeartbeats 1000000
namespace Wk
open PySem PySem.Spec PyProof.Rows L2
/-! ### list(x), tuple(x) of a text -/
def signsV (x : Str) : List V := x.cps.toList.map fun c => V.str ⟨#[c]⟩
def rSeqS (k : List V → HO) : List V → Hp → VK → Prop := fun vs H Q => ∃ x, vs = [V.str x] ∧ x.length ≤ sizeLine ∧ ∀ p, H p = none → Q (.ref p) (upd H p (k (signsV x)))
theorem vals_signs {x : Str} {acc : Array Value} (h : ItemsOf (SignAt x) acc x.cps.size) : Vals (signsV x) acc.toList := by
  refine vals_of_at (by unfold signsV; rw [List.length_map, Array.length_toList, Array.length_toList]; exact h.1.symm) fun j y u hy hu => ?_
  obtain ⟨c, t, hc, e⟩ := h.2 j u (by rw [← hu, Array.getElem?_toList])
  unfold signsV at hy
  rw [List.getElem?_map, Array.getElem?_toList, hc] at hy
  cases hy
  subst e
  exact ⟨t, rfl⟩
theorem cr_listS {X : Cx} (hc : X.calm = true) : CallR X (.type "list") (rSeqS .lst) := by
  intro pins s σ H vs us Q I r h
  obtain ⟨x, rfl, hz, q⟩ := h
  obtain ⟨u, rfl, t, rfl⟩ := Vals.one r
  refine call_list_str (hn := hz) (I.ok.hd hc) x t fun h' tk acc c' hk e' hi => ?_
  refine ⟨.ref s.heap.objs.size, upd H s.heap.objs.size (.lst (signsV x)), I.laid hk (Nat.le_refl _) (show ObjOk X.prog X.w _ _ _ (.lst (signsV x)) from ⟨?_, acc.toList, c', vals_signs hi, ?_⟩), rfl, q _ (I.hok.fresh (Nat.le_refl _))⟩
  · unfold signsV; rw [List.length_map, Array.length_toList]; exact hz
  · rw [Array.toArray_toList]; exact e'
theorem cr_tupS {X : Cx} (hc : X.calm = true) : CallR X (.type "tuple") (rSeqS .tup) := by
  intro pins s σ H vs us Q I r h
  obtain ⟨x, rfl, hz, q⟩ := h
  obtain ⟨u, rfl, t, rfl⟩ := Vals.one r
  refine call_tuple_str (I.ok.hd hc) x t (fun h' tk acc hk hi => ?_) hz
  have I2 : Inv X pins σ H { s with heap := h', toks := tk } := I.kept hk
  refine ⟨.ref h'.objs.size, upd H h'.objs.size (.tup (signsV x)), I2.laid (t' := tk) (fun c o e => Heap.get?_push_of_some _ e) (Nat.le_refl _) (show ObjOk X.prog X.w _ _ _ (.tup (signsV x)) from ⟨?_, acc.toList, vals_signs hi, ?_⟩), rfl, q _ (I2.hok.fresh (Nat.le_refl _))⟩
  · unfold signsV; rw [List.length_map, Array.length_toList]; exact hz
  · rw [Array.toArray_toList]; exact IsTup.new _ _
def signsD (s : Str) : List D := (cl s).map fun n => ps [n]
theorem rs_signs {K : PySem.W.Frag} {H : Hp} {x : Str} (o : okS x = true) : Rs K H (signsV x) (signsD x) := by
  unfold signsV signsD cl
  have h : ∀ l : List Nat, (∀ n ∈ l, n ∈ cl x) → Rs K H (l.map fun c => V.str ⟨#[c]⟩) (l.map fun n => ps [n]) := fun l => by
    induction l with
    | nil => exact fun _ => .nil
    | cons c l ih =>
      refine fun hl => .cons (.str _ (okS_of (fun n hn => ?_) (by simp))) (ih fun n hn => hl n (List.mem_cons_of_mem _ hn))
      have e : n = c := by simpa using hn
      subst e
      exact (okS_in o).1 n (hl n List.mem_cons_self)
  exact h _ fun n hn => hn
def bListA : D → Option D
  | .str s => some (.list (signsD s))
  | d => bList d
def bTupleA : D → Option D
  | .str s => some (.tuple (signsD s))
  | d => bTuple d
section
variable {X : Cx} {z : Zs} {e b : Expr} {k k2 : Kd} {f g : SE} {p p2 pos pos2 : Pos} {kk : Nat}
theorem b_listA (hc : X.calm = true) : Cb1 X .nw (.type "list") bListA := by
  obtain ⟨r, h1, h2⟩ := b_list (X := X)
  refine ⟨_, CallR.or h1 (cr_listS hc), fun ca c He H x dx d Q rx e u q => ?_⟩
  unfold bListA at e
  split at e
  · cases e
    obtain ⟨e2, o1⟩ := rx.str
    exact .inr ⟨_, by rw [e2], by rw [sizeLine_is]; exact okS.le o1, fun p hp => q _ _ (rk_newN hp (rs_signs o1) u) (.new hp) (u.new hp)⟩
  · exact .inl (h2 ca c He H x dx d Q rx e u q)
theorem b_tupleA (hc : X.calm = true) : Cb1 X .sh (.type "tuple") bTupleA := by
  obtain ⟨r, h1, h2⟩ := b_tuple (X := X)
  refine ⟨_, CallR.or h1 (cr_tupS hc), fun ca c He H x dx d Q rx e u q => ?_⟩
  unfold bTupleA at e
  split at e
  · cases e
    obtain ⟨e2, o1⟩ := rx.str
    exact .inr ⟨_, by rw [e2], by rw [sizeLine_is]; exact okS.le o1, fun p hp => q _ _ (rk_tup hp (rs_signs o1) u) (.new hp) (u.new hp)⟩
  · exact .inl (h2 ca c He H x dx d Q rx e u q)
/-! ### list(range(..)), tuple(range(..)) -/
def sLstR (src : SA) : SE := fun Γ c => (src Γ c).bind fun p => if p.1.length ≤ 16777216 then some (.list p.1, p.2) else none
def sTupR (src : SA) : SE := fun Γ c => (src Γ c).bind fun p => if p.1.length ≤ 16777216 then some (.tuple p.1, p.2) else none
theorem rs_rg {K : PySem.W.Frag} {H : Hp} (i : Int) (n : Nat) : Rs K H ((List.range n).map fun j => V.int (i + (j : Nat))) (rangeD i n) := by
  unfold rangeD
  generalize List.range n = l
  induction l with
  | nil => exact .nil
  | cons x r ih => exact .cons (.int _) ih
def PRd (X : Cx) (z : Zs) (e : Expr) (src : SA) : Prop := ∃ te, PRg X e te ∧ ∀ σ H (Q : Int → Int → Hp → Prop),
  (∃ ca He Γ c ds c', Rel X.K z ca He Γ c σ H ∧ src Γ c = some (ds, c') ∧ ∀ (a b : Int) H', -(2 ^ 62) ≤ a ∧ a < 2 ^ 62 ∧ -(2 ^ 62) ≤ b ∧ b < 2 ^ 62 → ds = rangeD a (b - a).toNat → Sm ca H H' → CupAt ca c' H' → Q a b H') → te σ H Q
theorem prd_1 (he : PD X z e k f) (hm : X.mg "range" = none) (hg : Gl X "range" := by rfl) (na : starEach [e] X.env = (false, eval e X.env) :: starEach [] X.env := by rfl) : PRd X z (.Call (.Name "range" p) [e] [] pos) (sRange1 f) :=
  ⟨_, prg_1 hg hm he.pe na, fun σ H Q ⟨ca, He, Γ, c, ds, c', r, w, q⟩ => by
    obtain ⟨⟨d1, c1⟩, e1, w⟩ := bind_some' w
    refine ⟨ca, He, Γ, c, d1, c1, r, e1, fun x H1 rx s1 u1 => ?_⟩
    simp only at w
    split at w
    · split at w
      · rename_i j hz
        cases w
        cases (rx.rb r.hca r.cup).int
        exact ⟨_, rfl, q 0 j H1 ⟨by omega, by omega, hz.1, hz.2⟩ (by rw [Int.sub_zero]) s1 u1⟩
      · cases w
    · cases w⟩
theorem prd_2 (he : PD X z e k f) (hb : PD X z b k2 g) (hm : X.mg "range" = none) (hg : Gl X "range" := by rfl) (na : starEach [e, b] X.env = (false, eval e X.env) :: starEach [b] X.env := by rfl) (nb : starEach [b] X.env = (false, eval b X.env) :: starEach [] X.env := by rfl)
    (hp : (backTo pos (starEach [b] X.env)).any (·.1) = false := by rfl) : PRd X z (.Call (.Name "range" p) [e, b] [] pos) (sRange2 f g) :=
  ⟨_, prg_2 hg hm he.pe hb.pe na nb hp, fun σ H Q ⟨ca, He, Γ, c, ds, c', r, w, q⟩ => by
    obtain ⟨⟨d1, c1⟩, e1, w⟩ := bind_some' w
    obtain ⟨⟨d2, c2⟩, e2, w⟩ := bind_some' w
    refine ⟨ca, He, Γ, c, d1, c1, r, e1, fun x H1 rx s1 u1 => ?_⟩
    refine ⟨ca, He, Γ, c1, d2, c2, r.mono s1 u1, e2, fun y H2 ry s2 u2 => ?_⟩
    simp only at w
    split at w
    · split at w
      · rename_i hz
        cases w
        cases (rx.rb r.hca r.cup).int
        cases (ry.rb r.hca u1).int
        exact ⟨_, _, rfl, rfl, q _ _ H2 ⟨hz.1.1, hz.1.2, hz.2.1, hz.2.2⟩ rfl (s1.trans s2) u2⟩
      · cases w
    · cases w⟩
theorem pd_listRg {src : SA} (hc : X.calm = true) (h : PRd X z e src) (hm : X.mg "list" = none) (hg : Gl X "list" := by rfl) (na : starEach [e] X.env = (false, eval e X.env) :: starEach [] X.env := by rfl) : PD X z (.Call (.Name "list" p) [e] [] pos) .nw (sLstR src) := by
  obtain ⟨te, h1, h2⟩ := h
  refine ⟨pe_imp (pe_listRg hc hg hm h1 na) fun σ H Q ⟨ca, He, Γ, c, d, c', r, w, q⟩ => ?_⟩
  obtain ⟨⟨ds, c1⟩, e1, w⟩ := bind_some' w
  simp only at w
  split at w
  · rename_i hl
    cases w
    refine h2 σ H _ ⟨ca, He, Γ, c, ds, _, r, e1, fun a b H' hb e s u => ?_⟩
    subst e
    refine ⟨⟨hb.1, hb.2.1, hb.2.2.1, hb.2.2.2, ?_⟩, fun p hp => q _ _ ((rk_newN (K := X.K) (He := He) hp (rs_rg a _) u).step s u) (s.trans (.new hp)) (u.new hp)⟩
    unfold rangeD at hl
    rw [List.length_map, List.length_range] at hl
    omega
  · cases w
theorem pd_tupRg {src : SA} (hc : X.calm = true) (h : PRd X z e src) (hm : X.mg "tuple" = none) (hg : Gl X "tuple" := by rfl) (na : starEach [e] X.env = (false, eval e X.env) :: starEach [] X.env := by rfl) : PD X z (.Call (.Name "tuple" p) [e] [] pos) .sh (sTupR src) := by
  obtain ⟨te, h1, h2⟩ := h
  refine ⟨pe_imp (pe_tupRg hc hg hm h1 na) fun σ H Q ⟨ca, He, Γ, c, d, c', r, w, q⟩ => ?_⟩
  obtain ⟨⟨ds, c1⟩, e1, w⟩ := bind_some' w
  simp only at w
  split at w
  · rename_i hl
    cases w
    refine h2 σ H _ ⟨ca, He, Γ, c, ds, _, r, e1, fun a b H' hb e s u => ?_⟩
    subst e
    refine ⟨⟨hb.1, hb.2.1, hb.2.2.1, hb.2.2.2, ?_⟩, fun p hp => q _ _ (rk_tup hp (rs_rg a _) u) (s.trans (.new hp)) (u.new hp)⟩
    unfold rangeD at hl
    rw [List.length_map, List.length_range] at hl
    omega
  · cases w
end
end Wk
set_option Elab.async false
set_option linter.all false
set_option maxRecDepth 100000
set_option maxHeartbeats 4000000
namespace Wk
open PySem PySem.Spec PyProof.Rows L2
/-! ### xs += ys for an own list -/
section
variable {X : Cx} {z : Zs} {e : Expr} {f : SE} {pos : Pos} {k : Kd}
def rExtR : R2 := fun x y H Q => ∃ l b xs zs, x = .ref l ∧ y = .ref b ∧ H l = some (.lst xs) ∧ Rd H b (.lst zs) ∧ xs.length + zs.length ≤ sizeLine ∧ Q (.ref l) (L2.upd H l (.lst (xs ++ zs)))
theorem iop_extR : OpR X (inplaceOp .Add) rExtR := by
  intro pins s σ H x y v u Q I rx ry h
  obtain ⟨l, b, xs, zs, rfl, rfl, hH, hB, hz, q⟩ := h
  cases rx
  cases ry
  obtain ⟨z, its, n, r, hl, e⟩ := I.lstM hH
  obtain ⟨z2, its2, n2, r2, e2⟩ := hB.ok I.hok
  have hl2 : zs.length = its2.length := r2.length
  have hsz : its.toArray.size + its2.toArray.size ≤ sizeLine := by rw [List.size_toArray, List.size_toArray]; omega
  have hlong : ¬ (!its.toArray.isEmpty && Builtin.List.listTooLong (its.toArray.size + its2.toArray.size)) = true := by
    rw [notLongL hsz, Bool.and_false]
    exact Bool.false_ne_true
  refine iadd_road ⟨_, e, rfl⟩ ⟨_, e2, rfl⟩ (call_meets PySem.F.slot_list_iadd ⟨_, e, rfl⟩ PySem.F.entry_list_iadd (PySem.F.args_list_iadd_2 _ _)
    (AutoSeq1.list___iadd___list_list_0 l its.toArray n b its2.toArray n2 hlong (by rw [List.size_toArray]; omega) (by omega)) ⟨e, e2, ?_⟩)
  refine ⟨.ref l, _, I.lset (its' := its ++ its2) (t' := s.toks) hH e (by simp) (r.append r2) ?_, rfl, q⟩
  rw [List.length_append]
  omega
def extO (i : Nat) (Γ : Ev) (d : D) (c : Cup) : Option Out := match Γ[i]?, d with
  | some (some (.list ds)), .list es => if ds.length + es.length ≤ 16777216 then some (.nx (Γ.set i (some (.list (ds ++ es)))) c) else none
  | _, _ => none
def sExt (i : Nat) (f : SE) : SS := fun Γ c => (f Γ c).bind fun p => extO i Γ p.1 p.2
theorem psd_ext {i : Nat} {x : Str} {pos' : Pos} (hN : X.N.Nodup) (he : PD X z e k f) (hi : X.N[i]? = some x := by rfl) (hO : i ∈ z.O := by decide) (hx : Loc X.env.scope x := by first | exact Or.inl rfl | exact Or.inr rfl)
    (hf : X.fn x = true ∨ X.env.scope.names.lookup x = some .local := by first | exact .inl rfl | exact .inr rfl) : PSd X z (.AugAssign (.Name x pos') .Add e pos) (sExt i f) := by
  refine ⟨ps_imp (ps_aug hN hi hx he.pe iop_extR hf) fun Dn σ H ⟨ca, He, Γ, c, o, r, e, q⟩ => ?_⟩
  obtain ⟨⟨d1, c1⟩, e1, e⟩ := bind_some' e
  simp only [extO] at e
  split at e
  · rename_i ds es hg
    split at e
    · rename_i hz
      cases e
      have hT := r.notT hg hO
      obtain ⟨a, ds', vs, e6, e2, e3, e4, e5⟩ := r.own i _ hg hO hT
      cases e6
      refine ⟨_, e2, ca, He, Γ, _, _, c1, r, e1, fun v H1 rv s1 u1 => ?_⟩
      obtain ⟨b, zs, rfl, h2, rz⟩ := (rv.rb r.hca r.cup).list
      have na := r.ne e4
      have h1 := s1 a _ na e3
      have hσ : σ.set i (some (.ref a)) = σ := by
        refine List.ext_getElem? fun j => ?_
        by_cases hj : i = j
        · subst hj
          rw [List.getElem?_set_self (by have := List.getElem?_eq_some_iff.mp e2; exact this.1), e2]
        · rw [List.getElem?_set_ne hj]
      refine ⟨a, b, vs, zs, rfl, rfl, h1, h2, by rw [e5.len, rz.len, sizeLine_is]; exact hz, ?_⟩
      show Dn.nx (σ.set i (some (.ref a))) (L2.upd H1 a (.lst (vs ++ zs)))
      rw [hσ]
      exact q σ _ ((r.mono s1 u1).upd hO hT hg e2 h1 e4 ((e5.mono (s1.fz r.cup)).app rz)) ((s1.fz r.cup).trans (fz_lst h1))
    · cases e
  · cases e
end
/-! ### l.count(x), l.index(x) of data -/
section
variable {X : Cx}
def rCntD (K : PySem.W.Frag) : V → List V → Hp → VK → Prop := fun x xs H Q => ∃ (a : Addr) (y : V) (d : PyData) (ds : List PyData), x = V.ref a ∧ xs = [y] ∧ Dp K H (V.ref a) (.list ds) ∧ Dp K H y d ∧ PyData.canLayAll0 ds = true ∧ d.canLay0 = true ∧ min (PyData.depthAll ds) d.depth ≤ 64 ∧ Q (.int ((ds.countP fun z => PyData.eqv z d : Nat) : Int)) H
theorem mt_cntD (hu : X.A.units + 65 < cLine) : MtR X "list.count" (rCntD X.K) := by
  intro pins s σ H x xs v us Q I rx rxs h
  obtain ⟨a, y, d, ds, rfl, rfl, hl, hy, sl, sd, hz, q⟩ := h
  cases rx
  cases rxs with
  | cons ry rt =>
    rename_i uy ut
    cases rt
    obtain ⟨bs, r1⟩ := Dp.reads I d y uy hy ry
    have hroom : X.A.units + 1 + min (PyData.depthAll ds) d.depth < cLine := by omega
    cases hl with
    | lst hs ha =>
      obtain ⟨its, rv, ⟨⟨cls, dd, data, sls⟩, n, ho, hc, hdn, hdt⟩, hlen⟩ := I.list hs
      simp only at hc hdt
      subst hc hdt
      obtain ⟨as, h4⟩ := Dp.readsAll I ds _ its ha rv
      have hmap : its.map (SeqAt.readOf s.heap) = ds := SeqAt.readsAll_map ds its as sl h4
      refine call_meets PySem.F.slot_list_count ⟨_, ho, rfl⟩ PySem.F.entry_list_count (PySem.F.args_list_count_2 _ _)
        (SeqAt.list_countAt a its.toArray n dd sls uy (fun u => PyData.eqv (SeqAt.readOf s.heap u) d)) ⟨ho, SeqAt.items_eqAt (vs := its.toArray) (show ReadsAll s.heap its.toArray.toList ds as from h4) r1 sl sd hroom, ?_⟩
      have ec : its.toArray.toList.countP (fun u => PyData.eqv (SeqAt.readOf s.heap u) d) = ds.countP fun z => PyData.eqv z d := by
        rw [← hmap, List.countP_map]
        rfl
      refine ⟨.int (ds.countP fun z => PyData.eqv z d : Nat), H, I.tok _, ⟨s.toks, ?_⟩, q⟩
      show Value.int ((its.toArray.toList.countP (fun u => PyData.eqv (SeqAt.readOf s.heap u) d) : Nat) : Int) s.toks = Value.int ((ds.countP fun z => PyData.eqv z d : Nat) : Int) s.toks
      rw [ec]
def mLCount : D → D → Option D
  | .list ds, d => if min (PyData.depthAll ds) d.depth ≤ 64 then some (.int ((ds.countP fun z => PyData.eqv z d : Nat) : Int)) else none
  | _, _ => none
theorem ty_lcount : TyD "list" mLCount := fun K ca H x dx dy d rx e => by
  unfold mLCount at e
  split at e
  · obtain ⟨l, vs, e1, h3, _⟩ := rx.list
    rw [e1]
    exact .inl ⟨rfl, _, .inl h3⟩
  · cases e
theorem m_lcount (hu : X.A.units + 65 < cLine) : Mt1 X "list" .sh "list.count" mLCount := by
  refine ⟨_, mt_cntD hu, fun ca c He H x y dx dy d Q rx ry e u q => ?_⟩
  unfold mLCount at e
  split at e
  · rename_i ds
    split at e
    · rename_i hz
      cases e
      obtain ⟨l, vs, e1, h3, r1⟩ := rx.list
      refine ⟨l, y, dy, ds, e1, rfl, by rw [← e1]; exact rx.dp, ry.dp, ?_, ry.lay, hz, q _ H (.int _) (.refl H) u⟩
      have := rx.lay
      exact this
    · cases e
  · cases e
def rIdxD (K : PySem.W.Frag) : V → List V → Hp → VK → Prop := fun x xs H Q => ∃ (a : Addr) (y : V) (d : PyData) (ds : List PyData) (j : Nat), x = V.ref a ∧ xs = [y] ∧ Dp K H (V.ref a) (.list ds) ∧ Dp K H y d ∧ PyData.canLayAll0 ds = true ∧ d.canLay0 = true ∧ min (PyData.depthAll ds) d.depth ≤ 64 ∧ ds.findIdx? (fun z => PyData.eqv z d) = some j ∧ Q (.int (j : Nat)) H
theorem mt_idxD (hu : X.A.units + 65 < cLine) : MtR X "list.index" (rIdxD X.K) := by
  intro pins s σ H x xs v us Q I rx rxs h
  obtain ⟨a, y, d, ds, j, rfl, rfl, hl, hy, sl, sd, hz, hj, q⟩ := h
  obtain ⟨hjd, hzj, hno⟩ := List.findIdx?_eq_some_iff_getElem.mp hj
  cases rx
  cases rxs with
  | cons ry rt =>
    rename_i uy ut
    cases rt
    obtain ⟨bs, r1⟩ := Dp.reads I d y uy hy ry
    have hroom : X.A.units + 1 + min (PyData.depthAll ds) d.depth < cLine := by omega
    cases hl with
    | lst hs ha =>
      obtain ⟨its, rv, ⟨⟨cls, dd, data, sls⟩, n, ho, hc, hdn, hdt⟩, hlen⟩ := I.list hs
      simp only at hc hdt
      subst hc hdt
      obtain ⟨as, h4⟩ := Dp.readsAll I ds _ its ha rv
      have hn : its.length = ds.length := SeqAt.ReadsAll.length ds its as h4
      have hmap : its.map (SeqAt.readOf s.heap) = ds := SeqAt.readsAll_map ds its as sl h4
      have hvl := rv.length
      have hsl := sizeLine_eq
      have hjl : j < its.length := by omega
      have hj : j < its.toArray.size := by simpa using hjl
      have at_ : ∀ (m : Nat) (hm : m < its.toArray.size) (z' : PyData), ds[m]? = some z' → SeqAt.readOf s.heap its.toArray[m] = z' := by
        intro m hm z' hz'
        have hml : m < its.length := by simpa using hm
        rw [← hmap, List.getElem?_map, List.getElem?_eq_getElem hml] at hz'
        have e1 : SeqAt.readOf s.heap its[m] = z' := Option.some.inj (show some (SeqAt.readOf s.heap its[m]) = some z' from hz')
        simpa using e1
      refine call_meets PySem.F.slot_list_index ⟨_, ho, rfl⟩ PySem.F.entry_list_index (PySem.F.args_list_index_2 _ _)
        (SeqAt.list_indexAt a its.toArray n dd sls uy (fun u => PyData.eqv (SeqAt.readOf s.heap u) d) j hj (by omega) ?_ ?_) ⟨ho, SeqAt.items_eqAt (vs := its.toArray) (show ReadsAll s.heap its.toArray.toList ds as from h4) r1 sl sd hroom, ?_⟩
      · show PyData.eqv (SeqAt.readOf s.heap its.toArray[j]) d = true
        rw [at_ j hj _ (List.getElem?_eq_getElem hjd)]
        exact hzj
      · intro m hm hmj
        have hmd : m < ds.length := by omega
        show PyData.eqv (SeqAt.readOf s.heap its.toArray[m]) d = false
        rw [at_ m hm _ (List.getElem?_eq_getElem hmd)]
        have := hno m hmj
        simpa using this
      · exact ⟨.int (j : Nat), H, I.tok _, ⟨s.toks, rfl⟩, q⟩
def mIndex : D → D → Option D
  | .list ds, d => if min (PyData.depthAll ds) d.depth ≤ 64 then (ds.findIdx? fun z => PyData.eqv z d).map fun j => .int (j : Nat) else none
  | _, _ => none
theorem ty_index : TyD "list" mIndex := fun K ca H x dx dy d rx e => by
  unfold mIndex at e
  split at e
  · obtain ⟨l, vs, e1, h3, _⟩ := rx.list
    rw [e1]
    exact .inl ⟨rfl, _, .inl h3⟩
  · cases e
theorem m_index (hu : X.A.units + 65 < cLine) : Mt1 X "list" .sh "list.index" mIndex := by
  refine ⟨_, mt_idxD hu, fun ca c He H x y dx dy d Q rx ry e u q => ?_⟩
  unfold mIndex at e
  split at e
  · rename_i ds
    split at e
    · rename_i hz
      obtain ⟨j, hj, rfl⟩ := Option.map_eq_some_iff.mp e
      obtain ⟨l, vs, e1, h3, r1⟩ := rx.list
      refine ⟨l, y, dy, ds, j, e1, rfl, by rw [← e1]; exact rx.dp, ry.dp, ?_, ry.lay, hz, hj, q _ H (.int _) (.refl H) u⟩
      have := rx.lay
      exact this
    · cases e
  · cases e
end
end Wk
set_option Elab.async false
set_option linter.all false
set_option maxRecDepth 100000
set_option maxHeartbeats 4000000
namespace Wk
open PySem PySem.Spec PyProof.Rows L2
/-! ### dicts whose keys are numbers and texts -/
def kEq : D → D → Bool
  | .int a, .int b => decide (a = b)
  | .str a, .str b => decide (a = b)
  | _, _ => false
theorem kEq_kD (a b : L2.Key) : kEq (kD a) (kD b) = decide (a = b) := by
  cases a with
  | inl i => cases b with
    | inl j => exact decide_eq_decide.mpr ⟨fun h => congrArg _ h, fun h => Sum.inl.inj h⟩
    | inr y => exact (decide_eq_false fun h => by cases h).symm
  | inr x => cases b with
    | inl j => exact (decide_eq_false fun h => by cases h).symm
    | inr y => exact decide_eq_decide.mpr ⟨fun h => congrArg _ h, fun h => Sum.inr.inj h⟩
def dGetL (l : List (D × D)) (k : D) : Option D := (l.find? fun p => kEq p.1 k).map (·.2)
def dPutL (l : List (D × D)) (k d : D) : List (D × D) := if (l.any fun p => kEq p.1 k) = true then l.map (fun p => if kEq p.1 k = true then (p.1, d) else p) else l ++ [(k, d)]
def dMergeL (l more : List (D × D)) : List (D × D) := more.foldl (fun acc p => dPutL acc p.1 p.2) l
section
variable {K : PySem.W.Frag} {H : Hp}
theorem DR.get {y : D} {d : D} {kvs : List (L2.Key × V)} {l : List (D × D)} (r : DR K H kvs l) (h : dGetL l y = some d) : ∃ k v, y = kD k ∧ valV kvs k = some v ∧ R K H v d := by
  induction r with
  | nil => cases h
  | @cons k v d' kvs l q _ ih =>
    unfold dGetL at h
    rw [List.find?_cons] at h
    cases e : kEq (kD k) y with
    | true =>
      rw [e] at h
      cases h
      have hy : y = kD k := by
        cases k with
        | inl i => cases y <;> first
          | (have := of_decide_eq_true (show decide (i = _) = true from e); rw [← this]; rfl)
          | cases e
        | inr i => cases y <;> first
          | (have := of_decide_eq_true (show decide (i = _) = true from e); rw [← this]; rfl)
          | cases e
      subst hy
      exact ⟨k, v, rfl, valV_pos rfl, q⟩
    | false =>
      rw [e] at h
      obtain ⟨k2, v2, h1, h2, h3⟩ := ih h
      refine ⟨k2, v2, h1, ?_, h3⟩
      subst h1
      rw [kEq_kD] at e
      rw [valV_neg (of_decide_eq_false e)]
      exact h2
theorem DR.anyK {kvs : List (L2.Key × V)} {l : List (D × D)} (r : DR K H kvs l) (k : L2.Key) : (kvs.any fun kv => decide (kv.1 = k)) = l.any fun p => kEq p.1 (kD k) := by
  induction r with
  | nil => rfl
  | @cons k' v d kvs l q _ ih =>
    rw [List.any_cons, List.any_cons, ih, kEq_kD]
theorem DR.app {kvs ms : List (L2.Key × V)} {l m : List (D × D)} (r : DR K H kvs l) (s : DR K H ms m) : DR K H (kvs ++ ms) (l ++ m) := by
  induction r with
  | nil => exact s
  | cons q _ ih => exact .cons q ih
theorem DR.setAll {kvs : List (L2.Key × V)} {l : List (D × D)} (r : DR K H kvs l) (k : L2.Key) {v : V} {d : D} (q : R K H v d) : DR K H (kvs.map fun kv => if kv.1 = k then (kv.1, v) else kv) (l.map fun p => if kEq p.1 (kD k) = true then (p.1, d) else p) := by
  induction r with
  | nil => exact .nil
  | @cons k' v' d' kvs l q' _ ih =>
    rw [List.map_cons, List.map_cons]
    have e : (if kEq (kD k') (kD k) = true then (kD k', d) else (kD k', d')) = (kD k', if k' = k then d else d') := by
      rw [kEq_kD]
      by_cases h : k' = k
      · rw [if_pos (decide_eq_true h), if_pos h]
      · rw [if_neg (by rw [decide_eq_false h]; exact Bool.false_ne_true), if_neg h]
    have e2 : (if k' = k then (k', v) else (k', v')) = (k', if k' = k then v else v') := by split <;> rfl
    show DR K H ((if k' = k then (k', v) else (k', v')) :: _) ((if kEq (kD k') (kD k) = true then (kD k', d) else (kD k', d')) :: _)
    rw [e, e2]
    refine .cons ?_ ih
    split
    · exact q
    · exact q'
theorem DR.put {kvs : List (L2.Key × V)} {l : List (D × D)} (r : DR K H kvs l) (k : L2.Key) {v : V} {d : D} (q : R K H v d) : DR K H (putK kvs k v) (dPutL l (kD k) d) := by
  unfold putK dPutL
  rw [← r.anyK k]
  split
  · exact r.setAll k q
  · exact r.app (.cons q .nil)
theorem DR.merge {ms : List (L2.Key × V)} {m : List (D × D)} (s : DR K H ms m) : ∀ {kvs : List (L2.Key × V)} {l : List (D × D)}, DR K H kvs l → DR K H (mergeK kvs ms) (dMergeL l m) := by
  induction s with
  | nil => intro kvs l r; exact r
  | @cons k v d ms m q _ ih =>
    intro kvs l r
    exact ih (r.put k q)
end
structure DPs (X : Cx) (pos : Pos) (keys : List (Option Expr)) (values : List Expr) (kvs : List (L2.Key × V)) (l : List (D × D)) : Prop where
  pp : PPs X pos keys values (kvs.map fun kv => (tC (kV kv.1), tC kv.2))
  dr : ∀ H, DR X.K H kvs l
  len : kvs.length = keys.length
section
variable {X : Cx} {z : Zs} {e : Expr} {f : SE} {pos : Pos} {k : Kd}
theorem dps_nil : DPs X pos [] [] [] [] := ⟨pps_nil, fun _ => .nil, rfl⟩
theorem dps_cons {a b : Expr} {keys : List (Option Expr)} {values : List Expr} {kvs : List (L2.Key × V)} {l : List (D × D)} {key : L2.Key} {v : V} {d : D} (ha : PE X a (tC (kV key))) (hb : PE X b (tC v)) (hr : ∀ H, R X.K H v d) (h : DPs X pos keys values kvs l) : DPs X pos (some a :: keys) (b :: values) ((key, v) :: kvs) ((kD key, d) :: l) :=
  ⟨pps_cons ha hb h.pp, fun H => .cons (hr H) (h.dr H), congrArg (· + 1) h.len⟩
theorem dps_ss {x y : Str} {j j2 : Nat} {p p2 : Pos} {keys : List (Option Expr)} {values : List Expr} {kvs : List (L2.Key × V)} {l : List (D × D)} (h : DPs X pos keys values kvs l) (hy : okS y = true := by decide +kernel) : DPs X pos (some (.Constant (.str x) j p) :: keys) (.Constant (.str y) j2 p2 :: values) ((.inr x, .str y) :: kvs) ((.str x, .str y) :: l) :=
  dps_cons (key := .inr x) pe_str pe_str (fun _ => .str y hy) h
theorem dps_si {x : Str} {y : Int} {j j2 : Nat} {p p2 : Pos} {keys : List (Option Expr)} {values : List Expr} {kvs : List (L2.Key × V)} {l : List (D × D)} (h : DPs X pos keys values kvs l) : DPs X pos (some (.Constant (.str x) j p) :: keys) (.Constant (.int y) j2 p2 :: values) ((.inr x, .int y) :: kvs) ((.str x, .int y) :: l) :=
  dps_cons (key := .inr x) pe_str pe_int (fun _ => .int y) h
theorem tPairs_c {σ : L2.St} {Q : List (V × V) → Hp → Prop} : ∀ {kvs : List (L2.Key × V)} {H : Hp} {Q : List (V × V) → Hp → Prop}, Q (kvs.map fun kv => (kV kv.1, kv.2)) H → tPairs (kvs.map fun kv => (tC (kV kv.1), tC kv.2)) σ H Q
  | [], _, _, q => q
  | _ :: r, _, _, q => tPairs_c (Q := Q) (kvs := r) q
def sDct (l : List (D × D)) : SE := fun _ c => some (.dict (dMergeL [] l), c)
/-- a new dict of the frame's own -/
theorem Rel.setT {K : PySem.W.Frag} {ca : Addr} {He : Hp} {Γ : Ev} {c : Cup} {σ : L2.St} {H : Hp} (r : Rel K z ca He Γ c σ H) {i : Nat} {a : Addr} {l : List (D × D)} {kvs : List (L2.Key × V)} (hO : i ∈ z.O) (hT : i ∈ z.T) (hc : z.cu ≠ some i) (ha : H a = some (.dK kvs)) (hn : He a = none) (q : DR K H kvs l)
    (ne : ∀ j d, j ∈ z.O → j ≠ i → Γ[j]? = some (some d) → σ[j]? ≠ some (some (.ref a))) : Rel K z ca He (Γ.set i (some (.dict l))) c (σ.set i (some (.ref a))) H where
  cup := r.cup
  sm := r.sm
  hca := r.hca
  cu := fun j hj => by
    rw [List.getElem?_set_ne (fun e => hc (by rw [e]; exact hj))]
    exact r.cu j hj
  val := fun j d' h n => by
    rcases get_set h with ⟨rfl, e⟩ | ⟨ne, h⟩
    · exact absurd hO n
    · rw [List.getElem?_set_ne (Ne.symm ne)]
      exact r.val j d' h n
  own := fun j d' h n t => by
    rcases get_set h with ⟨rfl, e⟩ | ⟨ne, h⟩
    · exact absurd hT t
    · rw [List.getElem?_set_ne (Ne.symm ne)]
      exact r.own j d' h n t
  tab := fun j d' h n t => by
    rcases get_set h with ⟨rfl, e⟩ | ⟨ne, h⟩
    · cases e
      exact ⟨a, l, kvs, rfl, r.lt h, ha, hn, q⟩
    · rw [List.getElem?_set_ne (Ne.symm ne)]
      exact r.tab j d' h n t
  dis := fun j l b d' e hj hl nn h1 h2 h3 h4 => by
    have h10 := h1
    have h20 := h2
    rcases get_set h1 with ⟨rfl, e1⟩ | ⟨n1, h1⟩
    · rcases get_set h2 with ⟨rfl, e2⟩ | ⟨n2, h2⟩
      · exact nn rfl
      · rw [r.lt h10] at h3
        cases h3
        rw [List.getElem?_set_ne (Ne.symm n2)] at h4
        exact ne l _ hl n2 (by assumption) h4
    · rw [List.getElem?_set_ne (Ne.symm n1)] at h3
      rcases get_set h2 with ⟨rfl, e2⟩ | ⟨n2, h2⟩
      · rw [r.lt h20] at h4
        cases h4
        exact ne j _ hj n1 (by assumption) h3
      · rw [List.getElem?_set_ne (Ne.symm n2)] at h4
        exact r.dis j l b d' e hj hl nn h1 h2 h3 h4
  len := by rw [List.length_set, List.length_set, r.len]
theorem Sm.two {ca p : Addr} {H : Hp} {o o' : HO} (h : H p = none) : Sm ca H (L2.upd (L2.upd H p o) p o') := fun a u _ e => by
  have n := ne_of_none e h
  rw [upd_ne n, upd_ne n]
  exact e
theorem CupAt.two {ca p : Addr} {c : Cup} {H : Hp} {o o' : HO} (k : CupAt ca c H) (h : H p = none) : CupAt ca c (L2.upd (L2.upd H p o) p o') := by
  have n := ne_of_none (show H ca = _ from k) h
  show L2.upd _ _ _ ca = _
  rw [upd_ne n, upd_ne n]
  exact k
theorem psd_setT {i : Nat} {x : Str} {pos' p2 : Pos} {keys : List (Option Expr)} {values : List Expr} {kvs : List (L2.Key × V)} {l : List (D × D)} (hN : X.N.Nodup) (h : DPs X p2 keys values kvs l) (hall : keys.all (·.isSome) = true := by rfl) (hl : keys.length = values.length := by rfl) (h0 : keys ≠ [] := by simp) (h15 : keys.length ≤ 15 := by decide)
    (hi : X.N[i]? = some x := by rfl) (hO : i ∈ z.O := by decide) (hT : i ∈ z.T := by decide) (hc : z.cu ≠ some i := by decide) (hx : Loc X.env.scope x := by first | exact Or.inl rfl | exact Or.inr rfl)
    (hs : swapsWith (.Dict keys values p2) (some (.Name x pos')) pos.line X.env = pure false := by rfl) (hf : X.fn x = true ∨ X.env.scope.names.lookup x = some .local := by first | exact .inl rfl | exact .inr rfl) : PSd X z (.Assign [.Name x pos'] (.Dict keys values p2) pos) (sSet i (sDct l)) :=
  ⟨ps_imp (ps_set hN hi hx (pe_disp h.pp hall hl h0 h15) hs hf) fun Dn σ H ⟨ca, He, Γ, c, o, r, e, q⟩ => by
    cases e
    intro p np
    refine tPairs_c (Q := fun _ _ => True) ⟨upd_same, kvs, rfl, by rw [h.len]; exact h15, ?_⟩
    refine q _ _ ((r.mono (Sm.two np) (r.cup.two np)).setT hO hT hc upd_same (r.sm.was r.cup np) ((h.dr _).merge .nil) fun j d hj nj hg hs => ?_) ((Sm.two np).fz r.cup)
    obtain ⟨b, _, e2, e3, _⟩ := r.any hg hj
    rw [e2] at hs
    cases hs
    rw [np] at e3
    cases e3⟩
def dGetD : D → D → Option D
  | .dict l, k => dGetL l k
  | _, _ => none
theorem kV_of {K : PySem.W.Frag} {ca : Addr} {c : Cup} {He H H' : Hp} {v : V} {kd : Kd} {y : L2.Key} (q : RK K kd He H H' v (kD y)) (hc : He ca ≠ none) (hk : CupAt ca c H) : v = kV y := by
  have rb := q.rb hc hk
  cases y with
  | inl i => exact rb.int
  | inr x => exact rb.str.1
theorem pd_tget (i : Nat) {x : Str} {p1 : Pos} (hu : X.A.units + 65 < cLine) (he : PD X z e k f) (hN : X.N[i]? = some x := by rfl) (hO : i ∈ z.O := by decide) (hv : Vis X.env.scope x := by first | exact Or.inl rfl | exact Or.inr (Or.inl rfl) | exact Or.inr (Or.inr rfl)) (hd : (x == ("__debug__" : Str)) = false := by decide)
    (hcd : (x == ("__classdict__" : Str)) = false := by decide) (hs : NoSl e := by exact fun _ _ => rfl) : PD X z (.Subscript (.Name x p1) e pos) .sh (sOp dGetD (sVar i) f) :=
  ⟨pe_imp (pe_dget (by omega) (pe_var hN hv hd hcd) he.pe hs) fun σ H Q ⟨ca, He, Γ, c, d, c', r, e, q⟩ => by
    obtain ⟨t, c1, y, e1, e2, e3⟩ := sOp_some e
    obtain ⟨h, rfl⟩ := sVar_some e1
    unfold dGetD at e3
    split at e3
    · rename_i l k
      obtain ⟨a, l', kvs, x1, x2, x3, x4, x5⟩ := r.tab i _ h hO (r.isT h hO)
      cases x1
      refine ⟨_, x2, ca, He, Γ, _, _, c', r, e2, fun w H1 rw' s1 u1 => ?_⟩
      obtain ⟨ky, v, hy, hv, rv⟩ := x5.get e3
      subst hy
      have hw := kV_of rw' r.hca r.cup
      subst hw
      refine ⟨a, v, rfl, ?_, q v H1 (rv.mono (s1.fz r.cup)) s1 u1⟩
      rw [← hv]
      exact DGet.k (s1 _ _ (r.ne x4) x3)
    · cases e3⟩
theorem pd_dget {p2 : Pos} {keys : List (Option Expr)} {values : List Expr} {kvs : List (L2.Key × V)} {l : List (D × D)} (hu : X.A.units + 65 < cLine) (h : DPs X p2 keys values kvs l) (he : PD X z e k f) (hall : keys.all (·.isSome) = true := by rfl) (hl : keys.length = values.length := by rfl) (h0 : keys ≠ [] := by simp) (h15 : keys.length ≤ 15 := by decide)
    (hs : NoSl e := by exact fun _ _ => rfl) : PD X z (.Subscript (.Dict keys values p2) e pos) .sh (sOp dGetD (sDct l) f) :=
  ⟨pe_imp (pe_dget (by omega) (pe_disp h.pp hall hl h0 h15) he.pe hs) fun σ H Q ⟨ca, He, Γ, c, d, c', r, e, q⟩ => by
    obtain ⟨t, c1, y, e1, e2, e3⟩ := sOp_some e
    cases e1
    intro p np
    refine tPairs_c (Q := fun _ _ => True) ⟨upd_same, kvs, rfl, by rw [h.len]; exact h15, ?_⟩
    have s0 : Sm ca H _ := Sm.two (o := .dK []) (o' := .dK (mergeK [] kvs)) np
    have u0 := r.cup.two (o := .dK []) (o' := .dK (mergeK [] kvs)) np
    refine ⟨ca, He, Γ, _, _, c', r.mono s0 u0, e2, fun w H1 rw' s1 u1 => ?_⟩
    obtain ⟨ky, v, hy, hv, rv⟩ := DR.get ((h.dr H1).merge .nil) e3
    subst hy
    have hw := kV_of rw' r.hca u0
    subst hw
    have npc : p ≠ ca := fun e => by rw [e, show H ca = _ from r.cup] at np; cases np
    refine ⟨p, v, rfl, ?_, q v H1 rv (s0.trans s1) u1⟩
    rw [← hv]
    exact DGet.k (s1 _ _ npc upd_same)⟩
end
end Wk
set_option Elab.async false
set_option linter.all false
set_option maxRecDepth 100000
set_option maxHeartbeats 4000000
namespace Wk
open PySem PySem.Spec PyProof.Rows L2
/-! ### text.split(c), c one sign -/
def sp1 (n : Nat) : List Nat → List Nat → List (List Nat)
  | acc, [] => [acc]
  | acc, c :: r => if c = n then acc :: sp1 n [] r else sp1 n (acc ++ [c]) r
theorem sp1_spl (n : Nat) : ∀ (l acc : List Nat), TL.spl [n] 0 acc l = sp1 n acc l
  | [], acc => TL.spl_nil _ _ _
  | c :: r, acc => by
    have e : TL.pre [n] (c :: r) = decide (c = n) := by
      unfold TL.pre
      show ([c] == [n]) = _
      rw [Bool.eq_iff_iff, beq_iff_eq, decide_eq_true_eq]
      exact ⟨fun h => (List.cons.inj h).1, fun h => by rw [h]⟩
    unfold sp1
    by_cases h : c = n
    · rw [if_pos h, TL.spl_hit (by rw [e]; exact decide_eq_true h)]
      exact congrArg _ (sp1_spl n r [])
    · rw [if_neg h, ← sp1_spl n r (acc ++ [c])]
      show (if TL.pre [n] (c :: r) = true then _ else _) = _
      rw [e, if_neg (by rw [decide_eq_false h]; exact Bool.false_ne_true)]
theorem sp1_mem {n : Nat} : ∀ {l acc p : List Nat}, p ∈ sp1 n acc l → p.length ≤ acc.length + l.length ∧ ∀ x ∈ p, x ∈ acc ∨ x ∈ l
  | [], acc, p, h => by
    cases List.mem_singleton.mp h
    exact ⟨Nat.le_refl _, fun x hx => .inl hx⟩
  | c :: r, acc, p, h => by
    unfold sp1 at h
    rw [List.length_cons]
    split at h
    · rcases List.mem_cons.mp h with rfl | h
      · exact ⟨by omega, fun x hx => .inl hx⟩
      · obtain ⟨h1, h2⟩ := sp1_mem h
        refine ⟨by rw [List.length_nil] at h1; omega, fun x hx => ?_⟩
        rcases h2 x hx with h3 | h3
        · cases h3
        · exact .inr (List.mem_cons_of_mem _ h3)
    · obtain ⟨h1, h2⟩ := sp1_mem h
      rw [List.length_append, List.length_singleton] at h1
      refine ⟨by omega, fun x hx => ?_⟩
      rcases h2 x hx with h3 | h3
      · rcases List.mem_append.mp h3 with h3 | h3
        · exact .inl h3
        · cases List.mem_singleton.mp h3
          exact .inr List.mem_cons_self
      · exact .inr (List.mem_cons_of_mem _ h3)
def mSplit : D → D → Option D
  | .str a, .str b => match cl b with
    | [n] => if n < 256 ∧ (cl a).length + 2 ≤ 16777216 then some (.list ((sp1 n [] (cl a)).map ps)) else none
    | _ => none
  | _, _ => none
section
variable {X : Cx}
theorem ty_split : TyD "str" mSplit := fun K ca H x dx dy d rx e => by
  unfold mSplit at e
  split at e
  · rw [rx.str.1]
    rfl
  · cases e
theorem m_split1 : Mt1 X "str" .nw "str.split" mSplit := by
  refine ⟨_, mt_split, fun ca c He H x y dx dy d Q rx ry e u q => ?_⟩
  unfold mSplit at e
  split at e
  · rename_i a b
    split at e
    · rename_i n hb
      split at e
      · rename_i hz
        cases e
        obtain ⟨ex, ox⟩ := rx.str
        obtain ⟨ey, oy⟩ := ry.str
        have eb : b = SX.S [n] := by rw [← cl_ps b, hb]
        have ea : a = SX.S (cl a) := (cl_ps a).symm
        have es : Txt.split a b = (sp1 n [] (cl a)).map SX.S := by
          rw [eb]
          conv => lhs; rw [ea]
          rw [SX.split_S (by simp) (by simp [hz.1]), sp1_spl]
        refine ⟨a, b, ex, by rw [ey], by rw [eb]; rfl, by rw [sizeLine_is, len_cl]; exact hz.2, fun p np => ?_⟩
        have hs : Sm ca H (L2.upd H p (.lst ((Txt.split a b).map V.str))) := .new np
        refine q _ _ ⟨p, _, _, rfl, rfl, np, upd_same, ?_⟩ hs (u.new np)
        rw [es]
        have key : ∀ ls : List (List Nat), (∀ l ∈ ls, okS ⟨l.toArray⟩ = true) → ∀ H', Rs X.K H' ((ls.map SX.S).map V.str) (ls.map ps) := by
          intro ls
          induction ls with
          | nil => intro _ _; exact .nil
          | cons l r ih => intro h H'; exact .cons (.str _ (h l List.mem_cons_self)) (ih (fun m hm => h m (List.mem_cons_of_mem _ hm)) H')
        refine key _ (fun l hl => ?_) _
        obtain ⟨h1, h2⟩ := sp1_mem hl
        obtain ⟨o1, o2⟩ := okS_in ox
        refine okS_of (fun m hm => ?_) (by rw [List.length_nil] at h1; omega)
        rcases h2 m hm with h3 | h3
        · cases h3
        · exact o1 m h3
      · cases e
    · cases e
  · cases e
end
/-! ### len(set(numbers)) -/
def dd : List Int → List Int
  | [] => []
  | x :: r => if x ∈ r then dd r else x :: dd r
theorem dd_mem : ∀ {l : List Int} {x : Int}, x ∈ dd l ↔ x ∈ l
  | [], x => Iff.rfl
  | y :: r, x => by
    unfold dd
    split
    · rename_i h
      rw [dd_mem, List.mem_cons]
      exact ⟨.inr, fun h2 => h2.elim (fun e => e ▸ h) id⟩
    · rw [List.mem_cons, List.mem_cons, dd_mem]
theorem dd_nodup : ∀ l : List Int, (dd l).Nodup
  | [] => List.nodup_nil
  | y :: r => by
    unfold dd
    split
    · exact dd_nodup r
    · rename_i h
      exact List.nodup_cons.mpr ⟨fun h2 => h (dd_mem.mp h2), dd_nodup r⟩
theorem dd_len {l m : List Int} (h : m.Nodup) (e : ∀ x, x ∈ m ↔ x ∈ l) : m.length = (dd l).length :=
  ((List.perm_ext_iff_of_nodup h (dd_nodup l)).mpr fun x => (e x).trans dd_mem.symm).length_eq
theorem dd_le : ∀ l : List Int, (dd l).length ≤ l.length
  | [] => Nat.le_refl _
  | y :: r => by
    unfold dd
    have := dd_le r
    split
    · rw [List.length_cons]; omega
    · rw [List.length_cons, List.length_cons]; omega
theorem met_nodup (val : Nat → Int) : ∀ i, (firstMet val i).Nodup
  | 0 => List.nodup_nil
  | i + 1 => by
    rw [firstMet_succ]
    unfold step_dedup
    split
    · exact met_nodup val i
    · rename_i h
      refine List.nodup_append.mpr ⟨met_nodup val i, List.nodup_cons.mpr ⟨List.not_mem_nil, List.nodup_nil⟩, fun a ha b hb e => h ?_⟩
      cases List.mem_singleton.mp hb
      exact List.any_eq_true.mpr ⟨a, ha, beq_iff_eq.mpr e⟩
def bLenSet (d : D) : Option D := match d with
  | .list ds => (intsOf ds).bind fun ns => if ns.length ≤ 1000 then some (.int ((dd ns).length : Nat)) else none
  | .tuple ds => (intsOf ds).bind fun ns => if ns.length ≤ 1000 then some (.int ((dd ns).length : Nat)) else none
  | _ => none
section
variable {X : Cx} {z : Zs} {e : Expr} {f : SE} {k : Kd}
theorem pd_lenSet {p p2 q pos : Pos} (hc : X.calm = true) (he : PD X z e k f) (hm : X.mg "len" = none) (hm2 : X.mg "set" = none) (hg : Gl X "len" := by rfl) (hg2 : Gl X "set" := by rfl) (na : starEach [e] X.env = (false, eval e X.env) :: starEach [] X.env := by rfl) :
    PD X z (.Call (.Name "len" p) [.Call (.Name "set" p2) [e] [] q] [] pos) .sh (sU bLenSet f) := by
  refine ⟨⟨fun pins s σ H Q I w => ?_⟩⟩
  obtain ⟨ca, He, Γ, c, d, c', r, e1, fin⟩ := w
  obtain ⟨⟨d1, c1⟩, e2, e3⟩ := bind_some' e1
  obtain ⟨d2, e4, e5⟩ := Option.map_eq_some_iff.mp e3
  cases e5
  refine Call_ (ld_blt I hg hm PySem.boot_len (callWith_builtin1 (args_cons (Call_ (ld_blt I hg2 hm2 boot_set (callWith_type1 (args_cons (thn (he.pe.run pins s σ H (fun v H' => RK X.K k He H H' v d1 ∧ Sm ca H H' ∧ CupAt ca c1 H') I ⟨ca, He, Γ, c, d1, c1, r, e2, fun v H' a b c => ⟨a, b, c⟩⟩)
    fun v s1 ⟨x, H1, I1, r1, rk, sm1, u1⟩ => args_nil ?_) na) na rfl))) rfl) rfl rfl))
  have rb := rk.rb r.hca r.cup
  have goal : ∀ (ns : List Int) (h' : Heap) (tk : Nat) (o : Obj) (es : Array (Int × Value)) (ep : Nat) (t : SetTable), ns.length ≤ 1000 → d = PyData.int ((dd ns).length : Nat) → h'.get? s1.heap.objs.size = some o → o.ExactSet → o.data = .set es ep t → t.fits es.size = true → es.size = (dd ns).length →
      (∀ b u, s1.heap.get? b = some u → h'.get? b = some u) → wpAny (model X.prog X.w) X.A (call (.builtin "len") [.ref s1.heap.objs.size]) (fun v' s' => ∃ x' H', Inv X pins σ H' s' ∧ RelV x' v' ∧ Q x' H') X.xe { s1 with heap := h', toks := tk } := by
    intro ns h' tk o es ep t hz hd ho hex hdt hf hn hk
    have hle := dd_le ns
    have I2 : Inv X pins σ H1 { s1 with heap := h', toks := tk } := I1.kept hk
    refine call_len_set ho hex hdt hf (by omega) ⟨.int ((dd ns).length : Nat), H1, I2.tok _, ⟨_, by rw [hn]⟩, ?_⟩
    exact fin _ H1 (hd ▸ .int _) sm1 u1
  have e4 : bLenSet d1 = some d := e4
  unfold bLenSet at e4
  split at e4
  · rename_i ds
    obtain ⟨ns, e6, e7⟩ := bind_some' e4
    split at e7
    · rename_i hz
      cases e7
      obtain ⟨a, vs, rfl, hrd, rs⟩ := rb.list
      cases rs.ints e6
      cases r1
      obtain ⟨its, rv, pl, _⟩ := I1.list (.inl hrd)
      have hsz : its.toArray.size = ns.length := by rw [List.size_toArray, ← rv.length, List.length_map]
      refine call_set_list (I1.ok.hd hc) pl.isList (ns := ns) (by simpa using rv.ints) (by unfold scanBound; omega) fun h' tk hS hk => args_nil ?_
      obtain ⟨o, es, ep, t, ho, hex, hdt, _, _, _, hf, hn⟩ := hS
      refine goal ns h' tk o es ep t hz rfl ho hex hdt hf ?_ fun b u hb => hk b u (Heap.lt_size hb) hb
      rw [hn]
      refine dd_len (met_nodup _ _) fun x => ?_
      have := firstMet_any (fun i => ns.getD i 0) its.toArray.size x
      have e8 : (List.range its.toArray.size).map (fun i => ns.getD i 0) = ns := by
        rw [hsz]
        refine List.ext_getElem (by rw [List.length_map, List.length_range]) fun i h1 h2 => ?_
        rw [List.getElem_map, List.getElem_range, List.getD_eq_getElem?_getD, List.getElem?_eq_getElem h2]
        rfl
      rw [e8] at this
      have mem : ∀ l : List Int, (l.any (· == x)) = true ↔ x ∈ l := fun l => by
        rw [List.any_eq_true]
        exact ⟨fun ⟨y, hy, e⟩ => (beq_iff_eq.mp e) ▸ hy, fun h => ⟨x, h, beq_self_eq_true x⟩⟩
      rw [← mem, ← mem, this]
    · cases e7
  · rename_i ds
    obtain ⟨ns, e6, e7⟩ := bind_some' e4
    split at e7
    · rename_i hz
      cases e7
      obtain ⟨a, vs, rfl, hrd, rs⟩ := rb.tup
      cases rs.ints e6
      cases r1
      obtain ⟨its, rv, pt, _⟩ := I1.tuple hrd
      refine call_set_tupI ns (I1.ok.hd hc) pt (ints_of_vals rv) (by unfold scanBound; omega) fun h' tk cc hR _ hk => args_nil ?_
      obtain ⟨o, es, ep, t, ho, hex, hdt, _, nd, mem, _, hf, hn, _, _⟩ := hR
      refine goal ns h' tk o es ep t hz rfl ho hex hdt hf ?_ hk
      have := dd_len (l := ns) nd fun x => by rw [← mem]; exact decide_eq_true_iff
      rw [← this, List.length_map]
      simp
    · cases e7
  · cases e4
end
end Wk
set_option Elab.async false
set_option linter.all false
set_option maxRecDepth 100000
set_option maxHeartbeats 4000000
namespace Wk.So
open PySem PySem.Spec PyProof.Rows PySem.W PySem.Calls
section
variable {prog : Program} {w : World} {A : Around} {E : Value → Shared → Prop} {s : Shared} {β : Type} {enc : β → PyData} {R : Value → β → Prop}
/-- sorted(x), x a text: its signs as alike data -/
theorem sorted_str {x : Str} {t : Tok} {bs : List β} {Q : Value → Shared → Prop} (hh : A.in1.in1.handled = none) (hx : x.cps.size ≤ sizeLine) (hl : bs.length = x.cps.size)
    (each : ∀ (i : Nat) (c : Nat) (b : β), x.cps[i]? = some c → bs[i]? = some b → enc b = .str ⟨#[c]⟩ ∧ ∀ u, R (.str ⟨#[c]⟩ u) b) (hal : AllAlike (bs.map enc)) (hk : Sortable (bs.map enc))
    (hu : ∀ b, b ∈ bs → A.units + 2 + (enc b).depth < cLine)
    (h : ∀ (hm h' : Heap) (tk : Nat) (out : List Value) (ep : Nat), (∀ b o, s.heap.get? b = some o → hm.get? b = some o) → (∀ b o, hm.get? b = some o → h'.get? b = some o) → h'.get? hm.objs.size = some (seqObj "list" out.toArray ep) → out.length = bs.length → EachIs R out (bs.mergeSort (dataLe false enc)) →
      Q (.ref hm.objs.size) { s with heap := h', toks := tk }) (hhA : A.in1.handled = none) :
    wpAny (model prog w) A (call (.builtin "sorted") [.str x t]) Q E s := by
  refine call_function_entry_kw kind_sorted plain_sorted entry_sorted (args_sorted1 _) ?_
  unfold Builtin.«sorted»
  refine wpAny_bind (m := checkCount "sorted" 1 1 _) (wpAny_pure (wpAny_bind (wpAny_collect_str hhA x t (fun s' acc keep hg hd ho hi => ?_) hx)))
  obtain ⟨h', g', d', tk', os'⟩ := s'
  simp only at keep hg hd ho
  subst hg hd ho
  have hsz : acc.toList.length = bs.length := by rw [Array.length_toList, hi.1, hl]
  have eAll : EachIs (fun v b => R v b ∧ ∃ c u, v = .str ⟨#[c]⟩ u ∧ enc b = .str ⟨#[c]⟩) acc.toList bs := by
    have gen : ∀ (vs : List Value) (cs : List β), vs.length = cs.length → (∀ (i : Nat) (v : Value) (b : β), vs[i]? = some v → cs[i]? = some b → R v b ∧ ∃ c u, v = .str ⟨#[c]⟩ u ∧ enc b = .str ⟨#[c]⟩) → EachIs (fun v b => R v b ∧ ∃ c u, v = .str ⟨#[c]⟩ u ∧ enc b = .str ⟨#[c]⟩) vs cs := by
      intro vs
      induction vs with
      | nil => intro cs hl _; cases cs with
        | nil => exact .nil
        | cons => cases hl
      | cons v vs ih => intro cs hl k; cases cs with
        | nil => cases hl
        | cons b cs => exact .cons (k 0 v b rfl rfl) (ih cs (by simpa using hl) fun i v b h1 h2 => k (i + 1) v b (by simpa using h1) (by simpa using h2))
    refine gen _ _ hsz fun i v b h1 h2 => ?_
    obtain ⟨c, u, hc, rfl⟩ := hi.2 i v (by rw [← h1, Array.getElem?_toList])
    obtain ⟨e1, e2⟩ := each i c b hc h2
    exact ⟨e2 u, c, u, rfl, e1⟩
  have hV : acc.toList.length ≤ sizeLine := by rw [Array.length_toList, hi.1]; exact hx
  refine wpAny_bind (wpAny_newList ?_ hV)
  show wpAny _ _ _ _ _ ({ s with heap := h'.push (seqObj "list" acc.toList.toArray 0), toks := tk' } : Shared)
  have ho2 : (h'.push (seqObj "list" acc.toList.toArray 0)).get? h'.objs.size = some (seqObj "list" acc.toList.toArray 0) := Heap.get?_push_size _ rfl
  generalize hH : h'.push (seqObj "list" acc.toList.toArray 0) = H2 at ho2 ⊢
  have rd : ∀ hp : Heap, EachIs (fun v b => ∃ as, Reads hp v (enc b) as) acc.toList bs := fun hp => eAll.mono fun v b ⟨_, c, u, e1, e2⟩ => ⟨[], by rw [e1, e2]; exact .str _ _⟩
  have S := SortsAt.data (prog := prog) (w := w) (A := A.in1.in1) (s := ({ s with heap := sortingHeap H2 h'.objs.size acc.toList, toks := tk' } : Shared)) (each_map (R := fun v d => ∃ as, Reads (sortingHeap H2 h'.objs.size acc.toList) v d as) enc (rd _)) hal hk (bound_map hu)
  obtain ⟨ep, e2⟩ := sortedHeap_at (h := H2) (a := h'.objs.size) (vs := acc.toList) (n := 0) (out := (sortVals (dataKind (sortingHeap H2 h'.objs.size acc.toList) (bs.map enc)) false acc.toList acc.toList).toArray) ho2
  have hq := h h' (sortedHeap H2 h'.objs.size acc.toList (sortVals (dataKind (sortingHeap H2 h'.objs.size acc.toList) (bs.map enc)) false acc.toList acc.toList).toArray) tk' _ ep keep (fun b o e1 => by
      have hlt := Heap.lt_size e1
      have e3 : H2.get? b = some o := by rw [← hH]; exact Heap.get?_push_of_some _ e1
      rw [sortedHeap_old (Nat.ne_of_lt hlt) (Heap.lt_size e3)]
      exact e3) e2 (by rw [sortVals_length false rfl]; exact hsz) (sortVals_data false (eAll.mono fun _ _ k => k.1) (rd _) hal)
  refine wpAny_bind (wpAny_holding (wpAny_call_entry_kw slot_list_sort ⟨_, ho2, rfl⟩ entry_list_sort ?bd (args_list_sort _)))
  case bd =>
    have b := fun E' : Value → Shared → Prop => list_sort_vals (prog := prog) (w := w) (A := A.in1.in1) (E := E') (P := fun f s' => f = .done (.ret .none) ∧ Q (.ref h'.objs.size) s') (s := ({ s with heap := H2, toks := tk' } : Shared)) ho2 S hV ⟨rfl, hq⟩
    refine wpAny_mono (b _) (fun f s' hf => ?_) fun _ _ e => e
    obtain ⟨rfl, hq⟩ := hf
    exact ⟨_, rfl, wpAny_pure ⟨_, rfl, hq⟩⟩
end
end Wk.So
namespace Wk
open PySem PySem.Spec PyProof.Rows L2
def bSortedA : D → Option D
  | .str s => some (.list (sortD (signsD s)))
  | d => bSorted d
theorem alike_signs (l : List Nat) : PySem.W.AllAlike (l.map fun n => ps [n]) ∧ PySem.W.Sortable (l.map fun n => ps [n]) := by
  refine ⟨fun d hd d' hd' => ?_, .inr fun d hd => ?_⟩
  · obtain ⟨n, _, rfl⟩ := List.mem_map.mp hd
    obtain ⟨m, _, rfl⟩ := List.mem_map.mp hd'
    rfl
  · obtain ⟨n, _, rfl⟩ := List.mem_map.mp hd
    exact ⟨(fun e => by cases e), (fun _ e => by cases e)⟩
def rSortS (K : PySem.W.Frag) : List V → Hp → VK → Prop := fun vs H Q => ∃ x, vs = [V.str x] ∧ okS x = true ∧ ∀ p ys, H p = none → Rs K H ys (sortD (signsD x)) → Q (.ref p) (upd H p (.lst ys))
theorem cr_sortS {X : Cx} {k : Nat} (hc : X.calm = true) (hr : Room k X.A) : CallR X (.builtin "sorted") (rSortS X.K) := by
  intro pins s σ H vs us Q I r h
  obtain ⟨x, rfl, ox, q⟩ := h
  obtain ⟨u, rfl, t, rfl⟩ := Vals.one r
  obtain ⟨o1, o2⟩ := okS_in ox
  have hal := alike_signs (cl x)
  have hsnd : (((cl x).map fun n => ((V.str ⟨#[n]⟩, ps [n]) : V × D)).map Prod.snd) = (cl x).map fun n => ps [n] := by rw [List.map_map]; rfl
  have hx : x.cps.size ≤ sizeLine := by
    rw [sizeLine_is]
    have : (cl x).length = x.cps.size := by simp [cl]
    omega
  have hh : X.A.in1.handled = none := by rw [Around.in1_handled]; exact I.ok.hd hc
  refine So.sorted_str (bs := (cl x).map fun n => ((V.str ⟨#[n]⟩, ps [n]) : V × D)) (enc := Prod.snd) (R := fun u b => RelV b.1 u) (by rw [Around.in1_handled]; exact hh) hx (by rw [List.length_map]; simp [cl]) (fun i c b h1 h2 => ?_) (by rw [hsnd]; exact hal.1) (by rw [hsnd]; exact hal.2) (fun b hb => ?_) (fun hm h' tk out ep k1 k2 e1 hl eo => ?_) hh
  · rw [List.getElem?_map] at h2
    have hc' : (cl x)[i]? = some c := by unfold cl; rw [Array.getElem?_toList]; exact h1
    rw [hc'] at h2
    cases h2
    exact ⟨rfl, fun u => ⟨u, rfl⟩⟩
  · obtain ⟨n, _, rfl⟩ := List.mem_map.mp hb
    have := u65 hr
    show X.A.units + 2 + PyData.depth (ps [n]) < cLine
    simp only [PyData.depth]
    omega
  · have hsort : (((cl x).map fun n => ((V.str ⟨#[n]⟩, ps [n]) : V × D)).mergeSort (PySem.W.dataLe false Prod.snd)).map Prod.snd = sortD (signsD x) := by
      have hm := List.map_mergeSort (r := PySem.W.dataLe false (Prod.snd : V × D → D)) (s := PySem.W.dataLe false id) (f := Prod.snd) (l := (cl x).map fun n => ((V.str ⟨#[n]⟩, ps [n]) : V × D)) (fun a _ b _ => rfl)
      rw [hm, hsnd]
      rfl
    have hmem : ∀ p ∈ ((cl x).map fun n => ((V.str ⟨#[n]⟩, ps [n]) : V × D)).mergeSort (PySem.W.dataLe false Prod.snd), R X.K H p.1 p.2 := fun p hp => by
      obtain ⟨n, hn, rfl⟩ := List.mem_map.mp (List.mem_mergeSort.mp hp)
      exact .str _ (okS_of (fun m hm => by cases List.mem_singleton.mp hm; exact o1 n hn) (by simp))
    have hr2 := rs_pairs hmem
    rw [hsort] at hr2
    have hv := vals_each eo
    have I2 : Inv X pins σ H { s with heap := hm, toks := tk } := I.kept k1
    refine ⟨.ref _, upd H hm.objs.size (.lst ((((cl x).map fun n => ((V.str ⟨#[n]⟩, ps [n]) : V × D)).mergeSort (PySem.W.dataLe false Prod.snd)).map Prod.fst)), I2.laid (t' := tk) k2 (Nat.le_refl _) ⟨?_, out, ep, hv, e1⟩, rfl, q _ _ (I2.hok.fresh (Nat.le_refl _)) hr2⟩
    rw [List.length_map, List.length_mergeSort, List.length_map, sizeLine_is]
    exact o2
theorem b_sortedA {X : Cx} {k : Nat} (hc : X.calm = true) (hr : Room k X.A) : Cb1 X .nw (.builtin "sorted") bSortedA := by
  obtain ⟨r, h1, h2⟩ := b_sorted (X := X) hc hr
  refine ⟨_, CallR.or h1 (cr_sortS hc hr), fun ca c He H x dx d Q rx e u q => ?_⟩
  unfold bSortedA at e
  split at e
  · cases e
    obtain ⟨e2, ox⟩ := rx.str
    exact .inr ⟨_, by rw [e2], ox, fun p ys hp ry => q _ _ (rk_newN hp ry u) (.new hp) (u.new hp)⟩
  · exact .inl (h2 ca c He H x dx d Q rx e u q)
end Wk
set_option Elab.async false
set_option linter.all false
set_option maxRecDepth 100000
set_option maxHeartbeats 4000000
/-! WV: len(set(texts)) -/
namespace Wk
open PySem PySem.Spec PyProof.Rows L2
/-! ### the texts of a list, each once -/
def addU (σ : List Str) (x : Str) : List Str := if x ∈ σ then σ else σ ++ [x]
def uqN (xs : List Str) : Nat → List Str
  | 0 => []
  | i + 1 => addU (uqN xs i) (xs.getD i Str.empty)
theorem addU_mem {σ : List Str} {x y : Str} : y ∈ addU σ x ↔ y ∈ σ ∨ y = x := by
  unfold addU
  split
  · rename_i h
    exact ⟨.inl, fun h' => h'.elim id fun e => e ▸ h⟩
  · rw [List.mem_append, List.mem_singleton]
theorem addU_len {σ : List Str} {x : Str} : (addU σ x).length = if decide (x ∈ σ) = true then σ.length else σ.length + 1 := by
  unfold addU
  by_cases h : x ∈ σ
  · simp [h]
  · simp [h]
theorem uqN_le (xs : List Str) : ∀ i, (uqN xs i).length ≤ i
  | 0 => Nat.le_refl 0
  | i + 1 => by
    have := uqN_le xs i
    rw [uqN, addU_len]
    split <;> omega
theorem uqN_nodup (xs : List Str) : ∀ i, (uqN xs i).Nodup
  | 0 => List.nodup_nil
  | i + 1 => by
    have ih := uqN_nodup xs i
    rw [uqN]
    unfold addU
    split
    · exact ih
    · rename_i h
      refine List.nodup_append.mpr ⟨ih, List.nodup_cons.mpr ⟨List.not_mem_nil, List.nodup_nil⟩, fun a ha b hb e => h ?_⟩
      rw [List.mem_singleton.mp hb] at e
      exact e ▸ ha
theorem uqN_mem (xs : List Str) : ∀ i, i ≤ xs.length → ∀ y, y ∈ uqN xs i ↔ y ∈ xs.take i
  | 0, _, y => by rw [uqN, List.take_zero]
  | i + 1, h, y => by
    have hg : xs[i]? = some (xs.getD i Str.empty) := by
      rw [List.getD_eq_getElem?_getD, List.getElem?_eq_getElem (by omega)]
      rfl
    rw [uqN, addU_mem, uqN_mem xs i (by omega) y, List.take_add_one, hg, List.mem_append]
    exact or_congr_right (by rw [Option.toList_some, List.mem_singleton])
/-- how many unlike texts -/
def ddS : List Str → List Str
  | [] => []
  | x :: r => if x ∈ r then ddS r else x :: ddS r
theorem ddS_mem : ∀ {l : List Str} {x : Str}, x ∈ ddS l ↔ x ∈ l
  | [], x => Iff.rfl
  | y :: r, x => by
    unfold ddS
    split
    · rename_i h
      rw [ddS_mem, List.mem_cons]
      exact ⟨.inr, fun h2 => h2.elim (fun e => e ▸ h) id⟩
    · rw [List.mem_cons, List.mem_cons, ddS_mem]
theorem ddS_nodup : ∀ l : List Str, (ddS l).Nodup
  | [] => List.nodup_nil
  | y :: r => by
    unfold ddS
    split
    · exact ddS_nodup r
    · rename_i h
      exact List.nodup_cons.mpr ⟨fun h2 => h (ddS_mem.mp h2), ddS_nodup r⟩
theorem uq_len (xs : List Str) : (uqN xs xs.length).length = (ddS xs).length :=
  ((List.perm_ext_iff_of_nodup (uqN_nodup xs _) (ddS_nodup xs)).mpr fun x => by
    rw [uqN_mem xs _ (Nat.le_refl _) x, List.take_length, ddS_mem]).length_eq
theorem ddS_le : ∀ l : List Str, (ddS l).length ≤ l.length
  | [] => Nat.le_refl _
  | y :: r => by
    unfold ddS
    have := ddS_le r
    split
    · rw [List.length_cons]; omega
    · rw [List.length_cons, List.length_cons]; omega
/-- S holds the first i texts -/
abbrev HoldsT (p : Program) (w : World) (xs : List Str) (S : Addr) (i : Nat) (h : Heap) : Prop :=
  h.SetOf (PySem.strKind p w) S (fun y => decide (y ∈ uqN xs i)) (uqN xs i).length
section
variable {p : Program} {w : World} {A : Around}
theorem HoldsT.still {xs : List Str} {S : Addr} {i : Nat} {h h2 : Heap} (H : HoldsT p w xs S i h) (k : ∀ o, h.get? S = some o → h2.get? S = some o) : HoldsT p w xs S i h2 :=
  H.elim fun o r => r.elim fun es r => r.elim fun ep r => r.elim fun t r => ⟨o, es, ep, t, k o r.1, r.2⟩
theorem text_loop {R : Result → Shared → Prop} {it : Addr} {fp wr : List Addr} {G : Array GenState → Array GenState → Prop} {n : Nat} {Pv : Nat → Value → Prop} {St : Nat → Shared → Prop}
    (wk : WalksS p w A.in1 it fp wr G n Pv St) {S : Addr} (hS : S ∉ fp) {xs : List Str} (hn : xs.length = n) (hfew : n + 1 < scanBound) (hv : ∀ i v, Pv i v → ∃ t, v = .str (xs.getD i Str.empty) t) :
    ∀ (m i : Nat) (s0 : Shared), i + m = n → St i s0 → HoldsT p w xs S i s0.heap →
      (∀ s9, Moved (S :: wr) G s0 s9 → HoldsT p w xs S n s9.heap → R (.ok (.ret .none)) s9) →
      codeAny (model p w) A (.builtin "set.update.loop" ⟨[.ref S, .ref it], []⟩) R s0 := by
  have out : S ∉ wr := fun h => hS (wk.sub _ h)
  have sub : ∀ b ∈ wr, b ∈ S :: wr := fun b hb => List.mem_cons_of_mem S hb
  intro m
  induction m with
  | zero =>
    intro i s0 him st hh fin
    obtain rfl : i = n := by omega
    apply codeAny_builtin PyProof.Rows.F.entry_set_update_loop
    rw [Around.under_plainId (PyProof.Rows.F.plain_set_update_loop) _]
    show wpAny _ A.in1 ((pyNext (.ref it)) >>= _) _ _ s0
    apply wpAny_bind
    refine wk.done s0 _ _ st fun s9 mv => ?_
    show wpAny _ A.in1 (ret .none) _ _ s9
    exact wpAny_pure (fin s9 (mv.mono sub) (hh.still fun o => mv.heap S o out))
  | succ m ih =>
    intro i s0 him st hh fin
    have lt : i < n := by omega
    apply codeAny_builtin PyProof.Rows.F.entry_set_update_loop
    rw [Around.under_plainId (PyProof.Rows.F.plain_set_update_loop) _]
    show wpAny _ A.in1 ((pyNext (.ref it)) >>= _) _ _ s0
    apply wpAny_bind
    refine wk.item i s0 _ _ lt st fun v s1 pv st1 mv => ?_
    obtain ⟨t, rfl⟩ := hv i v pv
    have h1 : HoldsT p w xs S i s1.heap := hh.still fun o => mv.heap S o out
    generalize hx : xs.getD i Str.empty = x
    show wpAny _ A.in1 ((holding [Value.str x t] (setAdd S (.str x t))) >>= _) _ _ s1
    apply wpAny_bind
    apply wpAny_holding
    unfold setAdd
    apply wpAny_holding
    apply wpAny_bind
    refine (PySem.strKind p w).pyHash (k := x) (strKind_is p w x t) ?_
    have room : (uqN xs i).length + 1 < scanBound := by
      have := uqN_le xs i
      omega
    refine wpAny_setAddHashed_of (knd := PySem.strKind p w) (s := { s1 with toks := s1.toks + 1 }) (strKind_is p w x t) rfl h1 room fun h2 same h3 => ?_
    have h4 : HoldsT p w xs S (i + 1) h2 := SetOf_congr h3 (fun y => by
      rw [uqN, hx]
      exact Bool.eq_iff_iff.mpr (by simp [addU_mem])) (by rw [uqN, hx, addU_len])
    refine wpAny_pure ⟨plainId_quiet (PyProof.Rows.F.plain_set_update_loop) _, ih (i + 1) _ (by omega) (wk.frame _ s1 _ _ st1 (Nat.le_succ _) fun b hb o e => ?_) h4 fun s9 mv9 h9 => ?_⟩
    · exact (same.2 b fun e' => hS (e' ▸ hb)).trans e
    · refine fin s9 (Moved.trans wk.gtrans ((mv.mono sub).then_heap (Nat.le_succ _) fun b o hb e => ?_) mv9) h9
      exact (same.2 b fun e' => hb (e' ▸ List.mem_cons_self)).trans e
end
/-! ### set(list of texts) -/
abbrev newSet (led : Bool) : Obj := { cls := .type "set", dict := none, data := .set #[] 0 (.fresh 0 0 led) }
theorem HoldsT.fresh {p : Program} {w : World} {xs : List Str} {S : Addr} {h : Heap} {led : Bool} (e : h.get? S = some (newSet led)) : HoldsT p w xs S 0 h :=
  SetOf_congr ((setObjOf_fresh (knd := PySem.strKind p w) led).setOf e (by unfold scanBound; omega)) (fun _ => rfl) rfl
section
variable {p : Program} {w : World} {A : Around} {E : Value → Shared → Prop} {s : Shared}
set_option maxHeartbeats 3200000 in
theorem set_texts {l : Addr} {its : Array Value} {xs : List Str} {Q : Value → Shared → Prop} (free : A.handled = none) (isl : s.heap.IsList l its) (txt : StrsAre its.toList xs) (few : xs.length + 1 < scanBound)
    (fin : ∀ (h9 : Heap) (tk : Nat), HoldsT p w xs s.heap.objs.size xs.length h9 → (∀ b o, b < s.heap.objs.size → s.heap.get? b = some o → h9.get? b = some o) → Q (.ref s.heap.objs.size) { s with heap := h9, toks := tk }) :
    wpAny (model p w) A (call (.type "set") [.ref l]) Q E s := by
  obtain ⟨mc, mt, m1⟩ := PySem.F.called_set.mro
  obtain ⟨m2, m3, m4, m5⟩ := And.intro PySem.F.called_set.made (And.intro PySem.F.called_set.sub (And.intro PySem.F.called_set.notType PySem.F.called_set.canCreate))
  have m6 := PySem.F.typeCall_set_1 (Value.ref l)
  apply wpAny_call
  apply codeAny_of_tree
  show wpAny _ _ (callAny (Value.type "set") _) _ _ _
  refine wpAny_pure ⟨Code.quiet_builtin _ (by decide +kernel), ?_⟩
  apply codeAny_builtin PySem.F.entry_type_call
  rw [Around.under_plain ((weight_type_call_type "set" [.ref l] [])) rfl]
  repeat any_goals first | assumption | wp_step
  generalize hS : s.heap.objs.size = S at fin ⊢
  refine codeAny_mono (code_set_new_1 (.ref l) (E := E) (Q₁ := fun v s1 => ∃ led, v = .ref S ∧ s1 = { s with heap := s.heap.push (newSet led) }) fun led => ⟨led, by rw [hS], rfl⟩) fun r s1 hr => ?_
  rcases r with (e | f)
  · exact hr
  cases f with
  | ret o =>
    obtain ⟨led, rfl, rfl⟩ := hr
    have at1 : (s.heap.push (newSet led)).get? S = some (newSet led) := hS ▸ Heap.get?_push_size _ rfl
    have ty1 : Shared.TypeIs { s with heap := s.heap.push (newSet led) } (.ref S) "set" := ⟨_, at1, rfl⟩
    have m7 := PySem.F.called_set.init.lookup
    have m8 := PySem.F.called_set.init.bind (Value.ref S)
    repeat any_goals first | assumption | wp_step
    refine codeAny_mono (codeAny_call_builtin (R := wants (fun v s2 => v = .none ∧ ∃ h9 tk, s2 = { s with heap := h9, toks := tk } ∧ HoldsT p w xs S xs.length h9 ∧ ∀ b o, b < S → s.heap.get? b = some o → h9.get? b = some o) E) PySem.F.called_set.init.plain PySem.F.entry_set_init (check_set_init_1 ty1 ?_)) fun r2 s2 hr2 => ?_
    · have isl1 : (s.heap.push (newSet led)).IsList l its := isl.push _
      obtain ⟨⟨oc, od, oda, os⟩, got, c1, cn, c2⟩ := isl
      simp only at c1 c2
      subst c1 c2
      have got1 := Heap.get?_push_of_some (newSet led) got
      have n1 := PySem.F.sub_list_set
      have n2 := PySem.F.sub_list_frozenset
      have n3 : (Value.type "list" == Value.type "dict") = false := by decide
      unfold Builtin.«set.__init__» noKeywords Builtin.Frozenset.updateFrom
      generalize hIt : pyIter = It
      wp_walk
      subst hIt
      apply wpAny_pyIter_list isl1
      apply wpAny_bind
      apply wpAny_runValue
      have lS : l < S := hS ▸ Heap.lt_size got
      have sz : (s.heap.push (newSet led)).objs.size = S + 1 := by rw [Heap.size_push, hS]
      have nh : A.in1.in1.in1.handled = none := by simp [free]
      have ne1 : l ≠ (s.heap.push (newSet led)).objs.size := Nat.ne_of_lt (sz ▸ Nat.lt_succ_of_lt lS)
      have ne2 : S ∉ [(s.heap.push (newSet led)).objs.size, l] := by
        intro hm
        rcases List.mem_cons.mp hm with e | hm
        · omega
        · exact Nat.ne_of_gt lS (List.mem_singleton.mp hm)
      have len : xs.length = its.size := by rw [← StrsAre.len_eq txt, Array.length_toList]
      refine text_loop ((Walks.list nh _ l ne1 its).toS) ne2 len (by omega) (fun i v hv => SS.strs_at txt i v (by rw [Array.getElem?_toList]; exact hv)) its.size 0 _ (by omega)
        ⟨⟨_, Heap.get?_push_size _ rfl, rfl, rfl⟩, isl1.push _⟩ (.fresh (Heap.get?_push_of_some _ at1)) fun s9 mv h9 => ?_
      obtain ⟨hp, gn, dr, tk, io⟩ := s9
      obtain rfl : gn = s.gens := mv.gens
      obtain rfl : dr = s.drawn := mv.drawn
      obtain rfl : io = s.os := mv.os
      show wpAny _ _ _ _ _ _
      apply wpAny_pure
      show wpAny _ _ (ret .none) _ _ _
      refine wpAny_pure ⟨rfl, hp, tk, rfl, len ▸ h9, fun b o hb e => ?_⟩
      refine mv.heap b o (fun hm => ?_) (Heap.get?_push_of_some _ (Heap.get?_push_of_some _ e))
      rcases List.mem_cons.mp hm with e' | hm
      · exact Nat.ne_of_lt hb e'
      · exact Nat.ne_of_lt (sz ▸ Nat.lt_succ_of_lt hb) (List.mem_singleton.mp hm)
    · rcases r2 with (e | f)
      · exact hr2
      cases f with
      | ret o =>
        obtain ⟨rfl, h9, tk, rfl, hh, kk⟩ := hr2
        repeat any_goals first | assumption | wp_step
        exact fin _ _ hh kk
      | _ => exact hr2.elim
  | _ => exact hr.elim
end
end Wk
set_option Elab.async false
set_option linter.all false
set_option maxRecDepth 100000
set_option maxHeartbeats 4000000
/-! WV4: set(tuple of texts) -/
namespace Wk
open PySem PySem.Spec PyProof.Rows L2
section
variable {p : Program} {w : World} {A : Around} {E : Value → Shared → Prop} {s : Shared}
set_option maxHeartbeats 3200000 in
theorem set_textsT {l : Addr} {its : Array Value} {xs : List Str} {Q : Value → Shared → Prop} (free : A.handled = none) (isl : s.heap.IsTuple l its) (txt : StrsAre its.toList xs) (few : xs.length + 1 < scanBound)
    (fin : ∀ (h9 : Heap) (tk : Nat), HoldsT p w xs s.heap.objs.size xs.length h9 → (∀ b o, b < s.heap.objs.size → s.heap.get? b = some o → h9.get? b = some o) → Q (.ref s.heap.objs.size) { s with heap := h9, toks := tk }) :
    wpAny (model p w) A (call (.type "set") [.ref l]) Q E s := by
  obtain ⟨mc, mt, m1⟩ := PySem.F.called_set.mro
  obtain ⟨m2, m3, m4, m5⟩ := And.intro PySem.F.called_set.made (And.intro PySem.F.called_set.sub (And.intro PySem.F.called_set.notType PySem.F.called_set.canCreate))
  have m6 := PySem.F.typeCall_set_1 (Value.ref l)
  apply wpAny_call
  apply codeAny_of_tree
  show wpAny _ _ (callAny (Value.type "set") _) _ _ _
  refine wpAny_pure ⟨Code.quiet_builtin _ (by decide +kernel), ?_⟩
  apply codeAny_builtin PySem.F.entry_type_call
  rw [Around.under_plain ((weight_type_call_type "set" [.ref l] [])) rfl]
  repeat any_goals first | assumption | wp_step
  generalize hS : s.heap.objs.size = S at fin ⊢
  refine codeAny_mono (code_set_new_1 (.ref l) (E := E) (Q₁ := fun v s1 => ∃ led, v = .ref S ∧ s1 = { s with heap := s.heap.push (newSet led) }) fun led => ⟨led, by rw [hS], rfl⟩) fun r s1 hr => ?_
  rcases r with (e | f)
  · exact hr
  cases f with
  | ret o =>
    obtain ⟨led, rfl, rfl⟩ := hr
    have at1 : (s.heap.push (newSet led)).get? S = some (newSet led) := hS ▸ Heap.get?_push_size _ rfl
    have ty1 : Shared.TypeIs { s with heap := s.heap.push (newSet led) } (.ref S) "set" := ⟨_, at1, rfl⟩
    have m7 := PySem.F.called_set.init.lookup
    have m8 := PySem.F.called_set.init.bind (Value.ref S)
    repeat any_goals first | assumption | wp_step
    refine codeAny_mono (codeAny_call_builtin (R := wants (fun v s2 => v = .none ∧ ∃ h9 tk, s2 = { s with heap := h9, toks := tk } ∧ HoldsT p w xs S xs.length h9 ∧ ∀ b o, b < S → s.heap.get? b = some o → h9.get? b = some o) E) PySem.F.called_set.init.plain PySem.F.entry_set_init (check_set_init_1 ty1 ?_)) fun r2 s2 hr2 => ?_
    · have isl1 : (s.heap.push (newSet led)).IsTuple l its := isl.push _
      obtain ⟨⟨oc, od, oda, os⟩, got, c1, cn, c2⟩ := isl
      simp only at c1 c2
      subst c1 c2
      have got1 := Heap.get?_push_of_some (newSet led) got
      have n1 := PySem.F.sub_tuple_set
      have n2 := PySem.F.sub_tuple_frozenset
      have n3 : (Value.type "tuple" == Value.type "dict") = false := by decide
      unfold Builtin.«set.__init__» noKeywords Builtin.Frozenset.updateFrom
      generalize hIt : pyIter = It
      wp_walk
      subst hIt
      apply wpAny_pyIter_tuple isl1
      apply wpAny_bind
      apply wpAny_runValue
      have lS : l < S := hS ▸ Heap.lt_size got
      have sz : (s.heap.push (newSet led)).objs.size = S + 1 := by rw [Heap.size_push, hS]
      have nh : A.in1.in1.in1.handled = none := by simp [free]
      have ne1 : l ≠ (s.heap.push (newSet led)).objs.size := Nat.ne_of_lt (sz ▸ Nat.lt_succ_of_lt lS)
      have ne2 : S ∉ [(s.heap.push (newSet led)).objs.size, l] := by
        intro hm
        rcases List.mem_cons.mp hm with e | hm
        · omega
        · exact Nat.ne_of_gt lS (List.mem_singleton.mp hm)
      have len : xs.length = its.size := by rw [← StrsAre.len_eq txt, Array.length_toList]
      refine text_loop ((Walks.tuple nh _ l ne1 its).toS) ne2 len (by omega) (fun i v hv => SS.strs_at txt i v (by rw [Array.getElem?_toList]; exact hv)) its.size 0 _ (by omega)
        ⟨⟨_, Heap.get?_push_size _ rfl, rfl, rfl⟩, isl1.push _⟩ (.fresh (Heap.get?_push_of_some _ at1)) fun s9 mv h9 => ?_
      obtain ⟨hp, gn, dr, tk, io⟩ := s9
      obtain rfl : gn = s.gens := mv.gens
      obtain rfl : dr = s.drawn := mv.drawn
      obtain rfl : io = s.os := mv.os
      show wpAny _ _ _ _ _ _
      apply wpAny_pure
      show wpAny _ _ (ret .none) _ _ _
      refine wpAny_pure ⟨rfl, hp, tk, rfl, len ▸ h9, fun b o hb e => ?_⟩
      refine mv.heap b o (fun hm => ?_) (Heap.get?_push_of_some _ (Heap.get?_push_of_some _ e))
      rcases List.mem_cons.mp hm with e' | hm
      · exact Nat.ne_of_lt hb e'
      · exact Nat.ne_of_lt (sz ▸ Nat.lt_succ_of_lt hb) (List.mem_singleton.mp hm)
    · rcases r2 with (e | f)
      · exact hr2
      cases f with
      | ret o =>
        obtain ⟨rfl, h9, tk, rfl, hh, kk⟩ := hr2
        repeat any_goals first | assumption | wp_step
        exact fin _ _ hh kk
      | _ => exact hr2.elim
  | _ => exact hr.elim
end
end Wk
set_option Elab.async false
set_option linter.all false
set_option maxRecDepth 100000
set_option maxHeartbeats 4000000
namespace Wk
open PySem PySem.Spec PyProof.Rows L2
/-! ### len(set(..)) of numbers or of texts -/
def bLenSetA (d : D) : Option D := match d with
  | .list ds => match intsOf ds with
    | some _ => bLenSet (.list ds)
    | none => (strsOf ds).bind fun xs => if xs.length ≤ 1000 then some (.int ((ddS xs).length : Nat)) else none
  | .tuple ds => match intsOf ds with
    | some _ => bLenSet (.tuple ds)
    | none => (strsOf ds).bind fun xs => if xs.length ≤ 1000 then some (.int ((ddS xs).length : Nat)) else none
  | d => bLenSet d
section
variable {X : Cx} {z : Zs} {e : Expr} {f : SE} {k : Kd}
theorem pd_lenSetA {p p2 q pos : Pos} (hc : X.calm = true) (he : PD X z e k f) (hm : X.mg "len" = none) (hm2 : X.mg "set" = none) (hg : Gl X "len" := by rfl) (hg2 : Gl X "set" := by rfl) (na : starEach [e] X.env = (false, eval e X.env) :: starEach [] X.env := by rfl) :
    PD X z (.Call (.Name "len" p) [.Call (.Name "set" p2) [e] [] q] [] pos) .sh (sU bLenSetA f) := by
  refine ⟨⟨fun pins s σ H Q I w => ?_⟩⟩
  have old := pd_lenSet (p := p) (p2 := p2) (q := q) (pos := pos) hc he hm hm2 hg hg2 na
  obtain ⟨ca, He, Γ, c, d, c', r, e1, fin⟩ := w
  obtain ⟨⟨d1, c1⟩, e2, e3⟩ := bind_some' e1
  obtain ⟨d2, e4, e5⟩ := Option.map_eq_some_iff.mp e3
  cases e5
  replace e4 : bLenSetA d1 = some d := e4
  have way : bLenSet d1 = some d → wpAny (model X.prog X.w) X.A (eval (.Call (.Name "len" p) [.Call (.Name "set" p2) [e] [] q] [] pos) X.env) (fun v' s' => ∃ x' H', Inv X pins σ H' s' ∧ RelV x' v' ∧ Q x' H') X.xe s := fun h => old.pe.run pins s σ H Q I ⟨ca, He, Γ, c, d, c1, r, by
    show (f Γ c).bind _ = _
    rw [e2]
    show (bLenSet d1).map _ = _
    rw [h]
    rfl, fin⟩
  unfold bLenSetA at e4
  split at e4
  · rename_i ds
    split at e4
    · exact way e4
    · obtain ⟨xs, e6, e7⟩ := bind_some' e4
      split at e7
      · rename_i hz
        cases e7
        clear way old
        refine Call_ (ld_blt I hg hm PySem.boot_len (callWith_builtin1 (args_cons (Call_ (ld_blt I hg2 hm2 boot_set (callWith_type1 (args_cons (thn (he.pe.run pins s σ H (fun v H' => RK X.K k He H H' v (.list ds) ∧ Sm ca H H' ∧ CupAt ca c1 H') I ⟨ca, He, Γ, c, .list ds, c1, r, e2, fun v H' a b c => ⟨a, b, c⟩⟩)
          fun v s1 ⟨x, H1, I1, r1, rk, sm1, u1⟩ => args_nil ?_) na) na rfl))) rfl) rfl rfl))
        have rb := rk.rb r.hca r.cup
        obtain ⟨a, vs, rfl, hrd, rs⟩ := rb.list
        cases (rs.strs e6).1
        cases r1
        obtain ⟨its, rv, pl, _⟩ := I1.list (.inl hrd)
        refine set_texts (I1.ok.hd hc) pl.isList (L2.strsAre_of rv) (by unfold scanBound; omega) fun h' tk hS hk => args_nil ?_
        obtain ⟨o, es, ep, t, ho, hex, hdt, _, _, _, hf, hn⟩ := hS
        have hle := ddS_le xs
        have hu := uq_len xs
        have I2 : Inv X pins σ H1 { s1 with heap := h', toks := tk } := I1.kept fun b u hb => hk b u (Heap.lt_size hb) hb
        refine call_len_set ho hex hdt hf (by omega) ⟨.int ((ddS xs).length : Nat), H1, I2.tok _, ⟨_, by rw [hn, hu]⟩, ?_⟩
        exact fin _ H1 (.int _) sm1 u1
      · cases e7
  · rename_i ds
    split at e4
    · exact way e4
    · obtain ⟨xs, e6, e7⟩ := bind_some' e4
      split at e7
      · rename_i hz
        cases e7
        clear way old
        refine Call_ (ld_blt I hg hm PySem.boot_len (callWith_builtin1 (args_cons (Call_ (ld_blt I hg2 hm2 boot_set (callWith_type1 (args_cons (thn (he.pe.run pins s σ H (fun v H' => RK X.K k He H H' v (.tuple ds) ∧ Sm ca H H' ∧ CupAt ca c1 H') I ⟨ca, He, Γ, c, .tuple ds, c1, r, e2, fun v H' a b c => ⟨a, b, c⟩⟩)
          fun v s1 ⟨x, H1, I1, r1, rk, sm1, u1⟩ => args_nil ?_) na) na rfl))) rfl) rfl rfl))
        have rb := rk.rb r.hca r.cup
        obtain ⟨a, vs, rfl, hrd, rs⟩ := rb.tup
        cases (rs.strs e6).1
        cases r1
        obtain ⟨its, rv, pt, _⟩ := I1.tuple hrd
        refine set_textsT (I1.ok.hd hc) pt (L2.strsAre_of rv) (by unfold scanBound; omega) fun h' tk hS hk => args_nil ?_
        obtain ⟨o, es, ep, t, ho, hex, hdt, _, _, _, hf, hn⟩ := hS
        have hle := ddS_le xs
        have hu := uq_len xs
        have I2 : Inv X pins σ H1 { s1 with heap := h', toks := tk } := I1.kept fun b u hb => hk b u (Heap.lt_size hb) hb
        refine call_len_set ho hex hdt hf (by omega) ⟨.int ((ddS xs).length : Nat), H1, I2.tok _, ⟨_, by rw [hn, hu]⟩, ?_⟩
        exact fin _ H1 (.int _) sm1 u1
      · cases e7
  · exact way e4
end
end Wk
set_option Elab.async false
set_option linter.all false
set_option maxRecDepth 100000
set_option maxHeartbeats 1000000
/-! WV3: x[i] += e of an own list of numbers -/
namespace Wk
open PySem PySem.Spec PyProof.Rows L2
def augI (i : Nat) (Γ : Ev) (k d : D) (c : Cup) : Option Out := match Γ[i]?, k, d with
  | some (some (.list ds)), .int k, .int b => (ixN ds.length k).bind fun j => match atI ds k with
    | some (.int a) => some (.nx (Γ.set i (some (.list (ds.set j (.int (a + b)))))) c)
    | _ => none
  | _, _, _ => none
def sAugI (i : Nat) (fi f : SE) : SS := fun Γ c => (fi Γ c).bind fun p => (f Γ p.2).bind fun r => augI i Γ p.1 r.1 r.2
section
variable {X : Cx} {z : Zs} {e : Expr} {f : SE} {k : Kd} {pos : Pos}
theorem get_lst : PGet X (rIxL X.K) := by
  intro pins s σ H x y v u Q I rx ry h
  obtain ⟨p, xs, i, w0, rfl, rfl, hq, he, q⟩ := h
  cases rx
  obtain ⟨t, rfl⟩ := ry
  obtain ⟨its, r, pl, hz⟩ := I.list hq
  obtain ⟨j, h1, h2, h3, h4, h5⟩ := L2.atI_get he
  obtain ⟨w, ew, rw'⟩ := r.get h2
  have hl := r.length
  have hn := line63
  by_cases h0 : 0 ≤ i
  · have hj : i.toNat = j := by
      rw [seqIndex_of h0 h5] at h1
      exact Option.some.inj h1
    exact wpAny_getItem_list pl.isList h0 (by omega) (by rw [hj]; simpa using ew) ⟨w0, H, I, rw', q⟩
  · have hj : (i + (its.toArray.size : Int)).toNat = j := by
      rw [seqIndex_neg (by omega) h4] at h1
      rw [List.size_toArray, ← hl]
      exact Option.some.inj h1
    exact wpAny_getItem_list_neg pl.isList (by omega) (by rw [List.size_toArray] <;> omega) (by omega) (by rw [hj]; simpa using ew) ⟨w0, H, I, rw', q⟩
theorem psd_augI {i : Nat} {x : Str} {p1 spos : Pos} {ei : Expr} {fi : SE} {ki : Kd} (hei : PD X z ei ki fi) (he : PD X z e k f) (hi : X.N[i]? = some x := by rfl) (hO : i ∈ z.O := by decide) (hv : Vis X.env.scope x := by first | exact Or.inl rfl | exact Or.inr (Or.inl rfl) | exact Or.inr (Or.inr rfl))
    (hd : (x == ("__debug__" : Str)) = false := by decide) (hcd : (x == ("__classdict__" : Str)) = false := by decide)
    (ha : ∀ ov iv new, augStore ei ov iv new = (do holding [new, ov, iv] (setItem ov iv new); release [new, ov, iv] []; pure .next) := by intros; rfl) :
    PSd X z (.AugAssign (.Subscript (.Name x p1) ei spos) .Add e pos) (sAugI i fi f) :=
  ⟨ps_imp (ps_augS (pe_var hi hv hd hcd) hei.pe get_lst he.pe ip_add set_list ha) fun Dn σ H ⟨ca, He, Γ, c, o, r, e, q⟩ => by
    obtain ⟨⟨d1, c1⟩, e1, e⟩ := bind_some' e
    obtain ⟨⟨d2, c2⟩, e2, e⟩ := bind_some' e
    replace e : augI i Γ d1 d2 c2 = some o := e
    unfold augI at e
    split at e
    · rename_i ds k b hg _
      obtain ⟨j, e6, e7⟩ := bind_some' e
      split at e7
      · rename_i a hj
        cases e7
        have hT := r.notT hg hO
        obtain ⟨a0, ds', vs, y1, y2, y3, y4, y5⟩ := r.own i _ hg hO hT
        cases y1
        refine ⟨_, y2, ca, He, Γ, c, _, c1, r, e1, fun w H1 rw1 s1 u1 => ?_⟩
        have r1 := r.mono s1 u1
        have h1 := s1 a0 _ (r.ne y4) y3
        have y6 := y5.mono (s1.fz r.cup)
        obtain ⟨v0, hv0, rv0⟩ := y6.atI hj
        have rb := rw1.rb r.hca r.cup
        refine ⟨a0, vs, k, v0, rfl, rb.int, .of h1, hv0, ca, He, Γ, c1, _, c2, r1, e2, fun w2 H2 rw2 s2 u2 => ?_⟩
        have r2 := r1.mono s2 u2
        have h2 := s2 a0 _ (r1.ne y4) h1
        have rb2 := rw2.rb r1.hca u1
        refine ⟨a, b, by cases rv0; rfl, rb2.int, a0, vs, k, j, rfl, rb.int, h2, by rw [y5.len]; exact e6, ?_⟩
        exact q σ _ (r2.upd hO hT hg y2 h2 y4 ((y6.mono (s2.fz u1)).set (.int _) j)) (((s1.trans s2).fz r.cup).trans (fz_lst h2))
      · cases e7
    · cases e⟩
end
end Wk
set_option Elab.async false
set_option linter.all false
set_option maxRecDepth 100000
set_option maxHeartbeats 1000000
namespace Wk
open PySem PySem.Spec PyProof.Rows L2
/-! ### the semantics, opened -/
theorem sVar_0 {d : D} {Γ : Ev} {c : Cup} : sVar 0 (some d :: Γ) c = some (d, c) := rfl
theorem sVar_1 {x0 : Option D} {d : D} {Γ : Ev} {c : Cup} : sVar 1 (x0 :: some d :: Γ) c = some (d, c) := rfl
theorem sVar_2 {x0 x1 : Option D} {d : D} {Γ : Ev} {c : Cup} : sVar 2 (x0 :: x1 :: some d :: Γ) c = some (d, c) := rfl
theorem sVar_3 {x0 x1 x2 : Option D} {d : D} {Γ : Ev} {c : Cup} : sVar 3 (x0 :: x1 :: x2 :: some d :: Γ) c = some (d, c) := rfl
theorem sVar_4 {x0 x1 x2 x3 : Option D} {d : D} {Γ : Ev} {c : Cup} : sVar 4 (x0 :: x1 :: x2 :: x3 :: some d :: Γ) c = some (d, c) := rfl
theorem sVar_5 {x0 x1 x2 x3 x4 : Option D} {d : D} {Γ : Ev} {c : Cup} : sVar 5 (x0 :: x1 :: x2 :: x3 :: x4 :: some d :: Γ) c = some (d, c) := rfl
theorem sVar_6 {x0 x1 x2 x3 x4 x5 : Option D} {d : D} {Γ : Ev} {c : Cup} : sVar 6 (x0 :: x1 :: x2 :: x3 :: x4 :: x5 :: some d :: Γ) c = some (d, c) := rfl
theorem sVar_7 {x0 x1 x2 x3 x4 x5 x6 : Option D} {d : D} {Γ : Ev} {c : Cup} : sVar 7 (x0 :: x1 :: x2 :: x3 :: x4 :: x5 :: x6 :: some d :: Γ) c = some (d, c) := rfl
theorem sVar_8 {x0 x1 x2 x3 x4 x5 x6 x7 : Option D} {d : D} {Γ : Ev} {c : Cup} : sVar 8 (x0 :: x1 :: x2 :: x3 :: x4 :: x5 :: x6 :: x7 :: some d :: Γ) c = some (d, c) := rfl
theorem sVar_9 {x0 x1 x2 x3 x4 x5 x6 x7 x8 : Option D} {d : D} {Γ : Ev} {c : Cup} : sVar 9 (x0 :: x1 :: x2 :: x3 :: x4 :: x5 :: x6 :: x7 :: x8 :: some d :: Γ) c = some (d, c) := rfl
theorem sVar_10 {x0 x1 x2 x3 x4 x5 x6 x7 x8 x9 : Option D} {d : D} {Γ : Ev} {c : Cup} : sVar 10 (x0 :: x1 :: x2 :: x3 :: x4 :: x5 :: x6 :: x7 :: x8 :: x9 :: some d :: Γ) c = some (d, c) := rfl
theorem sVar_11 {x0 x1 x2 x3 x4 x5 x6 x7 x8 x9 x10 : Option D} {d : D} {Γ : Ev} {c : Cup} : sVar 11 (x0 :: x1 :: x2 :: x3 :: x4 :: x5 :: x6 :: x7 :: x8 :: x9 :: x10 :: some d :: Γ) c = some (d, c) := rfl
theorem sVar_12 {x0 x1 x2 x3 x4 x5 x6 x7 x8 x9 x10 x11 : Option D} {d : D} {Γ : Ev} {c : Cup} : sVar 12 (x0 :: x1 :: x2 :: x3 :: x4 :: x5 :: x6 :: x7 :: x8 :: x9 :: x10 :: x11 :: some d :: Γ) c = some (d, c) := rfl
theorem sVar_13 {x0 x1 x2 x3 x4 x5 x6 x7 x8 x9 x10 x11 x12 : Option D} {d : D} {Γ : Ev} {c : Cup} : sVar 13 (x0 :: x1 :: x2 :: x3 :: x4 :: x5 :: x6 :: x7 :: x8 :: x9 :: x10 :: x11 :: x12 :: some d :: Γ) c = some (d, c) := rfl
theorem sVar_14 {x0 x1 x2 x3 x4 x5 x6 x7 x8 x9 x10 x11 x12 x13 : Option D} {d : D} {Γ : Ev} {c : Cup} : sVar 14 (x0 :: x1 :: x2 :: x3 :: x4 :: x5 :: x6 :: x7 :: x8 :: x9 :: x10 :: x11 :: x12 :: x13 :: some d :: Γ) c = some (d, c) := rfl
theorem sVar_15 {x0 x1 x2 x3 x4 x5 x6 x7 x8 x9 x10 x11 x12 x13 x14 : Option D} {d : D} {Γ : Ev} {c : Cup} : sVar 15 (x0 :: x1 :: x2 :: x3 :: x4 :: x5 :: x6 :: x7 :: x8 :: x9 :: x10 :: x11 :: x12 :: x13 :: x14 :: some d :: Γ) c = some (d, c) := rfl
theorem sVar_16 {x0 x1 x2 x3 x4 x5 x6 x7 x8 x9 x10 x11 x12 x13 x14 x15 : Option D} {d : D} {Γ : Ev} {c : Cup} : sVar 16 (x0 :: x1 :: x2 :: x3 :: x4 :: x5 :: x6 :: x7 :: x8 :: x9 :: x10 :: x11 :: x12 :: x13 :: x14 :: x15 :: some d :: Γ) c = some (d, c) := rfl
theorem sVar_17 {x0 x1 x2 x3 x4 x5 x6 x7 x8 x9 x10 x11 x12 x13 x14 x15 x16 : Option D} {d : D} {Γ : Ev} {c : Cup} : sVar 17 (x0 :: x1 :: x2 :: x3 :: x4 :: x5 :: x6 :: x7 :: x8 :: x9 :: x10 :: x11 :: x12 :: x13 :: x14 :: x15 :: x16 :: some d :: Γ) c = some (d, c) := rfl
theorem sVar_18 {x0 x1 x2 x3 x4 x5 x6 x7 x8 x9 x10 x11 x12 x13 x14 x15 x16 x17 : Option D} {d : D} {Γ : Ev} {c : Cup} : sVar 18 (x0 :: x1 :: x2 :: x3 :: x4 :: x5 :: x6 :: x7 :: x8 :: x9 :: x10 :: x11 :: x12 :: x13 :: x14 :: x15 :: x16 :: x17 :: some d :: Γ) c = some (d, c) := rfl
theorem sVar_19 {x0 x1 x2 x3 x4 x5 x6 x7 x8 x9 x10 x11 x12 x13 x14 x15 x16 x17 x18 : Option D} {d : D} {Γ : Ev} {c : Cup} : sVar 19 (x0 :: x1 :: x2 :: x3 :: x4 :: x5 :: x6 :: x7 :: x8 :: x9 :: x10 :: x11 :: x12 :: x13 :: x14 :: x15 :: x16 :: x17 :: x18 :: some d :: Γ) c = some (d, c) := rfl
theorem sVar_20 {x0 x1 x2 x3 x4 x5 x6 x7 x8 x9 x10 x11 x12 x13 x14 x15 x16 x17 x18 x19 : Option D} {d : D} {Γ : Ev} {c : Cup} : sVar 20 (x0 :: x1 :: x2 :: x3 :: x4 :: x5 :: x6 :: x7 :: x8 :: x9 :: x10 :: x11 :: x12 :: x13 :: x14 :: x15 :: x16 :: x17 :: x18 :: x19 :: some d :: Γ) c = some (d, c) := rfl
theorem sVar_21 {x0 x1 x2 x3 x4 x5 x6 x7 x8 x9 x10 x11 x12 x13 x14 x15 x16 x17 x18 x19 x20 : Option D} {d : D} {Γ : Ev} {c : Cup} : sVar 21 (x0 :: x1 :: x2 :: x3 :: x4 :: x5 :: x6 :: x7 :: x8 :: x9 :: x10 :: x11 :: x12 :: x13 :: x14 :: x15 :: x16 :: x17 :: x18 :: x19 :: x20 :: some d :: Γ) c = some (d, c) := rfl
theorem sVar_22 {x0 x1 x2 x3 x4 x5 x6 x7 x8 x9 x10 x11 x12 x13 x14 x15 x16 x17 x18 x19 x20 x21 : Option D} {d : D} {Γ : Ev} {c : Cup} : sVar 22 (x0 :: x1 :: x2 :: x3 :: x4 :: x5 :: x6 :: x7 :: x8 :: x9 :: x10 :: x11 :: x12 :: x13 :: x14 :: x15 :: x16 :: x17 :: x18 :: x19 :: x20 :: x21 :: some d :: Γ) c = some (d, c) := rfl
theorem sVar_23 {x0 x1 x2 x3 x4 x5 x6 x7 x8 x9 x10 x11 x12 x13 x14 x15 x16 x17 x18 x19 x20 x21 x22 : Option D} {d : D} {Γ : Ev} {c : Cup} : sVar 23 (x0 :: x1 :: x2 :: x3 :: x4 :: x5 :: x6 :: x7 :: x8 :: x9 :: x10 :: x11 :: x12 :: x13 :: x14 :: x15 :: x16 :: x17 :: x18 :: x19 :: x20 :: x21 :: x22 :: some d :: Γ) c = some (d, c) := rfl
theorem sVar_24 {x0 x1 x2 x3 x4 x5 x6 x7 x8 x9 x10 x11 x12 x13 x14 x15 x16 x17 x18 x19 x20 x21 x22 x23 : Option D} {d : D} {Γ : Ev} {c : Cup} : sVar 24 (x0 :: x1 :: x2 :: x3 :: x4 :: x5 :: x6 :: x7 :: x8 :: x9 :: x10 :: x11 :: x12 :: x13 :: x14 :: x15 :: x16 :: x17 :: x18 :: x19 :: x20 :: x21 :: x22 :: x23 :: some d :: Γ) c = some (d, c) := rfl
theorem sVar_25 {x0 x1 x2 x3 x4 x5 x6 x7 x8 x9 x10 x11 x12 x13 x14 x15 x16 x17 x18 x19 x20 x21 x22 x23 x24 : Option D} {d : D} {Γ : Ev} {c : Cup} : sVar 25 (x0 :: x1 :: x2 :: x3 :: x4 :: x5 :: x6 :: x7 :: x8 :: x9 :: x10 :: x11 :: x12 :: x13 :: x14 :: x15 :: x16 :: x17 :: x18 :: x19 :: x20 :: x21 :: x22 :: x23 :: x24 :: some d :: Γ) c = some (d, c) := rfl
theorem sVar_26 {x0 x1 x2 x3 x4 x5 x6 x7 x8 x9 x10 x11 x12 x13 x14 x15 x16 x17 x18 x19 x20 x21 x22 x23 x24 x25 : Option D} {d : D} {Γ : Ev} {c : Cup} : sVar 26 (x0 :: x1 :: x2 :: x3 :: x4 :: x5 :: x6 :: x7 :: x8 :: x9 :: x10 :: x11 :: x12 :: x13 :: x14 :: x15 :: x16 :: x17 :: x18 :: x19 :: x20 :: x21 :: x22 :: x23 :: x24 :: x25 :: some d :: Γ) c = some (d, c) := rfl
theorem sVar_27 {x0 x1 x2 x3 x4 x5 x6 x7 x8 x9 x10 x11 x12 x13 x14 x15 x16 x17 x18 x19 x20 x21 x22 x23 x24 x25 x26 : Option D} {d : D} {Γ : Ev} {c : Cup} : sVar 27 (x0 :: x1 :: x2 :: x3 :: x4 :: x5 :: x6 :: x7 :: x8 :: x9 :: x10 :: x11 :: x12 :: x13 :: x14 :: x15 :: x16 :: x17 :: x18 :: x19 :: x20 :: x21 :: x22 :: x23 :: x24 :: x25 :: x26 :: some d :: Γ) c = some (d, c) := rfl
theorem sVar_28 {x0 x1 x2 x3 x4 x5 x6 x7 x8 x9 x10 x11 x12 x13 x14 x15 x16 x17 x18 x19 x20 x21 x22 x23 x24 x25 x26 x27 : Option D} {d : D} {Γ : Ev} {c : Cup} : sVar 28 (x0 :: x1 :: x2 :: x3 :: x4 :: x5 :: x6 :: x7 :: x8 :: x9 :: x10 :: x11 :: x12 :: x13 :: x14 :: x15 :: x16 :: x17 :: x18 :: x19 :: x20 :: x21 :: x22 :: x23 :: x24 :: x25 :: x26 :: x27 :: some d :: Γ) c = some (d, c) := rfl
theorem sVar_29 {x0 x1 x2 x3 x4 x5 x6 x7 x8 x9 x10 x11 x12 x13 x14 x15 x16 x17 x18 x19 x20 x21 x22 x23 x24 x25 x26 x27 x28 : Option D} {d : D} {Γ : Ev} {c : Cup} : sVar 29 (x0 :: x1 :: x2 :: x3 :: x4 :: x5 :: x6 :: x7 :: x8 :: x9 :: x10 :: x11 :: x12 :: x13 :: x14 :: x15 :: x16 :: x17 :: x18 :: x19 :: x20 :: x21 :: x22 :: x23 :: x24 :: x25 :: x26 :: x27 :: x28 :: some d :: Γ) c = some (d, c) := rfl
theorem sVar_30 {x0 x1 x2 x3 x4 x5 x6 x7 x8 x9 x10 x11 x12 x13 x14 x15 x16 x17 x18 x19 x20 x21 x22 x23 x24 x25 x26 x27 x28 x29 : Option D} {d : D} {Γ : Ev} {c : Cup} : sVar 30 (x0 :: x1 :: x2 :: x3 :: x4 :: x5 :: x6 :: x7 :: x8 :: x9 :: x10 :: x11 :: x12 :: x13 :: x14 :: x15 :: x16 :: x17 :: x18 :: x19 :: x20 :: x21 :: x22 :: x23 :: x24 :: x25 :: x26 :: x27 :: x28 :: x29 :: some d :: Γ) c = some (d, c) := rfl
theorem sVar_31 {x0 x1 x2 x3 x4 x5 x6 x7 x8 x9 x10 x11 x12 x13 x14 x15 x16 x17 x18 x19 x20 x21 x22 x23 x24 x25 x26 x27 x28 x29 x30 : Option D} {d : D} {Γ : Ev} {c : Cup} : sVar 31 (x0 :: x1 :: x2 :: x3 :: x4 :: x5 :: x6 :: x7 :: x8 :: x9 :: x10 :: x11 :: x12 :: x13 :: x14 :: x15 :: x16 :: x17 :: x18 :: x19 :: x20 :: x21 :: x22 :: x23 :: x24 :: x25 :: x26 :: x27 :: x28 :: x29 :: x30 :: some d :: Γ) c = some (d, c) := rfl
theorem sVar_32 {x0 x1 x2 x3 x4 x5 x6 x7 x8 x9 x10 x11 x12 x13 x14 x15 x16 x17 x18 x19 x20 x21 x22 x23 x24 x25 x26 x27 x28 x29 x30 x31 : Option D} {d : D} {Γ : Ev} {c : Cup} : sVar 32 (x0 :: x1 :: x2 :: x3 :: x4 :: x5 :: x6 :: x7 :: x8 :: x9 :: x10 :: x11 :: x12 :: x13 :: x14 :: x15 :: x16 :: x17 :: x18 :: x19 :: x20 :: x21 :: x22 :: x23 :: x24 :: x25 :: x26 :: x27 :: x28 :: x29 :: x30 :: x31 :: some d :: Γ) c = some (d, c) := rfl
theorem sVar_33 {x0 x1 x2 x3 x4 x5 x6 x7 x8 x9 x10 x11 x12 x13 x14 x15 x16 x17 x18 x19 x20 x21 x22 x23 x24 x25 x26 x27 x28 x29 x30 x31 x32 : Option D} {d : D} {Γ : Ev} {c : Cup} : sVar 33 (x0 :: x1 :: x2 :: x3 :: x4 :: x5 :: x6 :: x7 :: x8 :: x9 :: x10 :: x11 :: x12 :: x13 :: x14 :: x15 :: x16 :: x17 :: x18 :: x19 :: x20 :: x21 :: x22 :: x23 :: x24 :: x25 :: x26 :: x27 :: x28 :: x29 :: x30 :: x31 :: x32 :: some d :: Γ) c = some (d, c) := rfl
theorem sVar_34 {x0 x1 x2 x3 x4 x5 x6 x7 x8 x9 x10 x11 x12 x13 x14 x15 x16 x17 x18 x19 x20 x21 x22 x23 x24 x25 x26 x27 x28 x29 x30 x31 x32 x33 : Option D} {d : D} {Γ : Ev} {c : Cup} : sVar 34 (x0 :: x1 :: x2 :: x3 :: x4 :: x5 :: x6 :: x7 :: x8 :: x9 :: x10 :: x11 :: x12 :: x13 :: x14 :: x15 :: x16 :: x17 :: x18 :: x19 :: x20 :: x21 :: x22 :: x23 :: x24 :: x25 :: x26 :: x27 :: x28 :: x29 :: x30 :: x31 :: x32 :: x33 :: some d :: Γ) c = some (d, c) := rfl
theorem bSortedA_l {ds : List D} : bSortedA (.list ds) = bSorted (.list ds) := rfl
theorem bSortedA_t {ds : List D} : bSortedA (.tuple ds) = bSorted (.tuple ds) := rfl
theorem bSortedA_s {l : List Nat} : bSortedA (ps l) = some (.list (sortD (l.map fun n => ps [n]))) := by simp only [bSortedA, signsD, cl_mk]
theorem sDct_e {l : List (D × D)} {Γ : Ev} {c : Cup} : sDct l Γ c = some (.dict (dMergeL [] l), c) := rfl
theorem sC_e {d : D} {Γ : Ev} {c : Cup} : sC d Γ c = some (d, c) := rfl
theorem sOp_e {g : D → D → Option D} {fa fb : SE} {Γ : Ev} {c : Cup} : sOp g fa fb Γ c = (fa Γ c).bind fun p => (fb Γ p.2).bind fun q => (g p.1 q.1).map fun r => (r, q.2) := rfl
theorem sU_e {g : D → Option D} {f : SE} {Γ : Ev} {c : Cup} : sU g f Γ c = (f Γ c).bind fun p => (g p.1).map fun d => (d, p.2) := rfl
theorem sB_e {f : SE} {Γ : Ev} {c : Cup} : sB f Γ c = (f Γ c).bind fun p => match p.1 with
  | .bool b => some (b, p.2)
  | _ => none := rfl
def boolD : D → Option Bool
  | .bool b => some b
  | _ => none
theorem sB_b {f : SE} {Γ : Ev} {c : Cup} : sB f Γ c = (f Γ c).bind fun p => (boolD p.1).map fun b => (b, p.2) := by
  unfold sB
  congr 1
  funext p
  obtain ⟨d, c⟩ := p
  cases d <;> rfl
theorem boolD_b {b : Bool} : boolD (.bool b) = some b := rfl
theorem sAnd_e {f g : STst} {Γ : Ev} {c : Cup} : sAnd f g Γ c = (f Γ c).bind fun p => if p.1 then g Γ p.2 else some (false, p.2) := rfl
theorem sOr_e {f g : STst} {Γ : Ev} {c : Cup} : sOr f g Γ c = (f Γ c).bind fun p => if p.1 then some (true, p.2) else g Γ p.2 := rfl
theorem sNot_e {f : STst} {Γ : Ev} {c : Cup} : sNot f Γ c = (f Γ c).map fun p => (!p.1, p.2) := rfl
theorem sAndV_e {f g : SE} {Γ : Ev} {c : Cup} : sAndV f g Γ c = (sB f Γ c).bind fun p => if p.1 then g Γ p.2 else some (.bool false, p.2) := rfl
theorem sOrV_e {f g : SE} {Γ : Ev} {c : Cup} : sOrV f g Γ c = (sB f Γ c).bind fun p => if p.1 then some (.bool true, p.2) else g Γ p.2 := rfl
theorem sNotV_e {f : SE} {Γ : Ev} {c : Cup} : sNotV f Γ c = (sB f Γ c).map fun p => (.bool (!p.1), p.2) := rfl
theorem sIf_e {t : STst} {f g : SE} {Γ : Ev} {c : Cup} : sIf t f g Γ c = (t Γ c).bind fun p => if p.1 then f Γ p.2 else g Γ p.2 := rfl
def negD : D → Option D
  | .int i => some (.int (-i))
  | _ => none
theorem sNeg_e {f : SE} {Γ : Ev} {c : Cup} : sNeg f Γ c = (f Γ c).bind fun p => (negD p.1).map fun d => (d, p.2) := by
  unfold sNeg
  congr 1
  funext p
  obtain ⟨d, c⟩ := p
  cases d <;> rfl
theorem negD_i {i : Int} : negD (.int i) = some (.int (-i)) := rfl
theorem sCall_e {m : List D → Cup → Option (D × Cup)} {g : SA} {Γ : Ev} {c : Cup} : sCall m g Γ c = (g Γ c).bind fun p => m p.1 p.2 := rfl
theorem sNil_e {Γ : Ev} {c : Cup} : sNil Γ c = some ([], c) := rfl
theorem sCons_e {f : SE} {g : SA} {Γ : Ev} {c : Cup} : sCons f g Γ c = (f Γ c).bind fun p => (g Γ p.2).map fun q => (p.1 :: q.1, q.2) := rfl
theorem sTup_e {g : SA} {Γ : Ev} {c : Cup} : sTup g Γ c = (g Γ c).bind fun p => if p.1.length ≤ 16777216 then some (.tuple p.1, p.2) else none := rfl
theorem sLst_e {g : SA} {Γ : Ev} {c : Cup} : sLst g Γ c = (g Γ c).bind fun p => if p.1.length ≤ 16777216 then some (.list p.1, p.2) else none := rfl
theorem sIsi_e {T : BT} {f : SE} {Γ : Ev} {c : Cup} : sIsi T f Γ c = (f Γ c).map fun p => (.bool (isTy T p.1), p.2) := rfl
theorem sNoP_e {Γ : Ev} {c : Cup} : sNoP Γ c = some (none, c) := rfl
def intD : D → Option (Option Int)
  | .int i => some (some i)
  | _ => none
theorem sPart_e {f : SE} {Γ : Ev} {c : Cup} : sPart f Γ c = (f Γ c).bind fun p => (intD p.1).map fun o => (o, p.2) := by
  unfold sPart
  congr 1
  funext p
  obtain ⟨d, c⟩ := p
  cases d <;> rfl
theorem intD_i {i : Int} : intD (.int i) = some (some i) := rfl
theorem sSl_e {f : SE} {l h : SO} {Γ : Ev} {c : Cup} : sSl f l h Γ c = (f Γ c).bind fun p => (l Γ p.2).bind fun q => (h Γ q.2).bind fun r => (oSl p.1 q.1 r.1).map fun d => (d, r.2) := rfl
theorem sCup0_e {Γ : Ev} {c : Cup} : sCup0 Γ c = some (.int c.1, c) := rfl
theorem sCup1_e {Γ : Ev} {c : Cup} : sCup1 Γ c = some (.int c.2, c) := rfl
def isBoolTrue : D → Option Bool
  | .bool b => some b
  | _ => none
theorem sChain_e {g g' : D → D → Option D} {fa fb fc : SE} {Γ : Ev} {c : Cup} : sChain g g' fa fb fc Γ c = (fa Γ c).bind fun p => (fb Γ p.2).bind fun q => ((g p.1 q.1).bind boolD).bind fun b => if b then (fc Γ q.2).bind fun r => (g' q.1 r.1).map fun d => (d, r.2) else some (.bool false, q.2) := by
  unfold sChain
  congr 1
  funext p
  congr 1
  funext q
  cases g p.1 q.1 with
  | none => rfl
  | some d =>
    cases d with
    | bool b => cases b <;> rfl
    | _ => rfl
theorem sSkip_e {Γ : Ev} {c : Cup} : sSkip Γ c = some (.nx Γ c) := rfl
theorem sSeq_e {f g : SS} {Γ : Ev} {c : Cup} : sSeq f g Γ c = (f Γ c).bind fun o => thenO o g := rfl
theorem thenO_nx {Γ : Ev} {c : Cup} {g : SS} : thenO (.nx Γ c) g = g Γ c := rfl
theorem thenO_rt {d : D} {c : Cup} {g : SS} : thenO (.rt d c) g = some (.rt d c) := rfl
theorem thenO_bk {Γ : Ev} {c : Cup} {g : SS} : thenO (.bk Γ c) g = some (.bk Γ c) := rfl
theorem thenO_ct {Γ : Ev} {c : Cup} {g : SS} : thenO (.ct Γ c) g = some (.ct Γ c) := rfl
theorem sDrop_e {f : SE} {Γ : Ev} {c : Cup} : sDrop f Γ c = (f Γ c).map fun p => .nx Γ p.2 := rfl
theorem sRet_e {f : SE} {Γ : Ev} {c : Cup} : sRet f Γ c = (f Γ c).map fun p => .rt p.1 p.2 := rfl
theorem sRetN_e {Γ : Ev} {c : Cup} : sRetN Γ c = some (.rt .none c) := rfl
theorem sIte_e {t : STst} {f g : SS} {Γ : Ev} {c : Cup} : sIte t f g Γ c = (t Γ c).bind fun p => if p.1 then f Γ p.2 else g Γ p.2 := rfl
theorem sSet_e {i : Nat} {f : SE} {Γ : Ev} {c : Cup} : sSet i f Γ c = (f Γ c).map fun p => .nx (Γ.set i (some p.1)) p.2 := rfl
theorem sSets_e {is : List Nat} {g : SA} {Γ : Ev} {c : Cup} : sSets is g Γ c = (g Γ c).bind fun p => (setAll is p.1 Γ).map fun Γ' => .nx Γ' p.2 := rfl
theorem setAll_nil {Γ : Ev} : setAll [] [] Γ = some Γ := rfl
theorem setAll_cons {i : Nat} {is : List Nat} {d : D} {ds : List D} {Γ : Ev} : setAll (i :: is) (d :: ds) Γ = setAll is ds (Γ.set i (some d)) := rfl
theorem sApp_e {i : Nat} {f : SE} {Γ : Ev} {c : Cup} : sApp i f Γ c = (f Γ c).bind fun p => appO i Γ p.1 p.2 := rfl
theorem sExt_e {i : Nat} {f : SE} {Γ : Ev} {c : Cup} : sExt i f Γ c = (f Γ c).bind fun p => extO i Γ p.1 p.2 := rfl
theorem extO_z {ds es : List D} {Γ : Ev} {c : Cup} (h : ds.length + es.length ≤ 16777216) : extO 0 (some (.list ds) :: Γ) (.list es) c = some (.nx (some (.list (ds ++ es)) :: Γ) c) := by
  show (if ds.length + es.length ≤ 16777216 then _ else _) = _
  rw [if_pos h] <;> rfl
theorem extO_s {i : Nat} {x : Option D} {Γ Γ' : Ev} {d : D} {c c' : Cup} (h : extO i Γ d c = some (.nx Γ' c')) : extO (i + 1) (x :: Γ) d c = some (.nx (x :: Γ') c') := by
  unfold extO at h ⊢
  rw [List.getElem?_cons_succ]
  split at h
  · rename_i ds es hg
    rw [hg]
    simp only
    split at h
    · rename_i hl
      rw [if_pos hl]
      cases h
      rfl
    · cases h
  · cases h
theorem sPut_e {i : Nat} {fv fi : SE} {Γ : Ev} {c : Cup} : sPut i fv fi Γ c = (fv Γ c).bind fun p => (fi Γ p.2).bind fun r => putO i Γ r.1 p.1 r.2 := rfl
theorem sAug_e {i : Nat} {gg : D → D → Option D} {f : SE} {Γ : Ev} {c : Cup} : sAug i gg f Γ c = (sVar i Γ c).bind fun q => (f Γ c).bind fun p => (gg q.1 p.1).map fun d => .nx (Γ.set i (some d)) p.2 := rfl
theorem sAugI_e {i : Nat} {fi f : SE} {Γ : Ev} {c : Cup} : sAugI i fi f Γ c = (fi Γ c).bind fun p => (f Γ p.2).bind fun r => augI i Γ p.1 r.1 r.2 := rfl
def put0 (Γ : Ev) (d : D) (c : Cup) : Option Out := match d with
  | .int i => some (.nx Γ (i, c.2))
  | _ => none
def put1 (Γ : Ev) (d : D) (c : Cup) : Option Out := match d with
  | .int i => some (.nx Γ (c.1, i))
  | _ => none
theorem sPut0_e {f : SE} {Γ : Ev} {c : Cup} : sPut0 f Γ c = (f Γ c).bind fun p => put0 Γ p.1 p.2 := rfl
theorem sPut1_e {f : SE} {Γ : Ev} {c : Cup} : sPut1 f Γ c = (f Γ c).bind fun p => put1 Γ p.1 p.2 := rfl
theorem put0_i {Γ : Ev} {i : Int} {c : Cup} : put0 Γ (.int i) c = some (.nx Γ (i, c.2)) := rfl
theorem put1_i {Γ : Ev} {i : Int} {c : Cup} : put1 Γ (.int i) c = some (.nx Γ (c.1, i)) := rfl
theorem sFor_e {src : SA} {tg : STg} {b : SS} {Γ : Ev} {c : Cup} : sFor src tg b Γ c = (src Γ c).bind fun p => forD tg b p.1 Γ p.2 := rfl
theorem sItems_e {f : SE} {Γ : Ev} {c : Cup} : sItems f Γ c = (f Γ c).bind fun p => (itemsOf p.1).map fun ds => (ds, p.2) := rfl
def range1 : D → Option (List D)
  | .int j => if -(2 ^ 62) ≤ j ∧ j < 2 ^ 62 then some (rangeD 0 j.toNat) else none
  | _ => none
theorem sRange1_e {f : SE} {Γ : Ev} {c : Cup} : sRange1 f Γ c = (f Γ c).bind fun p => (range1 p.1).map fun ds => (ds, p.2) := by
  unfold sRange1
  congr 1
  funext p
  obtain ⟨d, c⟩ := p
  cases d with
  | int j =>
    simp only [range1]
    split <;> rfl
  | _ => rfl
theorem range1_i {j : Int} (h0 : 0 ≤ j) (h : j < 2 ^ 62) : range1 (.int j) = some (rangeD 0 j.toNat) := by
  simp only [range1]
  rw [if_pos ⟨by omega, h⟩]
def range2 : D → D → Option (List D)
  | .int i, .int j => if (-(2 ^ 62) ≤ i ∧ i < 2 ^ 62) ∧ -(2 ^ 62) ≤ j ∧ j < 2 ^ 62 then some (rangeD i (j - i).toNat) else none
  | _, _ => none
theorem sRange2_e {f g : SE} {Γ : Ev} {c : Cup} : sRange2 f g Γ c = (f Γ c).bind fun p => (g Γ p.2).bind fun q => (range2 p.1 q.1).map fun ds => (ds, q.2) := by
  unfold sRange2
  congr 1
  funext p
  congr 1
  funext q
  obtain ⟨d, c⟩ := p
  obtain ⟨d', c'⟩ := q
  cases d with
  | int i =>
    cases d' with
    | int j =>
      simp only [range2]
      split <;> rfl
    | _ => rfl
  | _ => rfl
theorem sComp_e {vs : List Nat} {src : SA} {tg : STg} {cd : STst} {f : SE} {Γ : Ev} {c : Cup} : sComp vs src tg cd f Γ c = (src Γ c).bind fun p => if p.1.length ≤ 16777216 then (compD tg cd f p.1 (wipeE Γ vs) p.2).map fun q => (.list q.1, q.2) else none := rfl
theorem tgN_e {i : Nat} {d : D} {Γ : Ev} : tgN i d Γ = some (Γ.set i (some d)) := rfl
theorem wipeE_nil {Γ : Ev} : wipeE Γ [] = Γ := rfl
theorem wipeE_cons {Γ : Ev} {v : Nat} {vs : List Nat} : wipeE Γ (v :: vs) = (wipeE Γ vs).set v none := rfl
theorem sYes_e {Γ : Ev} {c : Cup} : sYes Γ c = some (true, c) := rfl
def outR : Out → Option (D × Cup)
  | .rt d c => some (d, c)
  | .nx _ c => some (.none, c)
  | _ => none
theorem runD_e {cu : Bool} {m : Nat} {b : SS} {ds : List D} {c : Cup} : runD cu m b ds c = (b (env0 cu m ds) c).bind outR := by
  unfold runD
  congr 1
theorem outR_rt {d : D} {c : Cup} : outR (.rt d c) = some (d, c) := rfl
theorem outR_nx {Γ : Ev} {c : Cup} : outR (.nx Γ c) = some (.none, c) := rfl
theorem env0_t {m : Nat} {ds : List D} : env0 true m ds = .none :: (ds.map some ++ List.replicate m .none) := rfl
theorem env0_f {m : Nat} {ds : List D} : env0 false m ds = ds.map some ++ List.replicate m .none := rfl
theorem appO_z {ds : List D} {Γ : Ev} {d : D} {c : Cup} (h : ds.length < 16777216) : appO 0 (some (.list ds) :: Γ) d c = some (.nx (some (.list (ds ++ [d])) :: Γ) c) := by
  show (if ds.length < 16777216 then _ else _) = _
  rw [if_pos h] <;> rfl
theorem appO_s {i : Nat} {x : Option D} {Γ Γ' : Ev} {d : D} {c c' : Cup} (h : appO i Γ d c = some (.nx Γ' c')) : appO (i + 1) (x :: Γ) d c = some (.nx (x :: Γ') c') := by
  unfold appO at h ⊢
  rw [List.getElem?_cons_succ]
  split at h
  · rename_i ds hg
    rw [hg]
    simp only
    split at h
    · rename_i hl
      rw [if_pos hl]
      cases h
      rfl
    · cases h
  · cases h
/-! ### operators -/
theorem oAdd_i {a b : Int} : oAdd (.int a) (.int b) = some (.int (a + b)) := rfl
theorem oAdd_s {a b : List Nat} (h : a.length + b.length ≤ 16777216) : oAdd (ps a) (ps b) = some (ps (a ++ b)) := by
  simp only [oAdd, cl_mk]
  rw [if_pos h]
theorem oAdd_l {a b : List D} (h : a.length + b.length ≤ 16777216) : oAdd (.list a) (.list b) = some (.list (a ++ b)) := by
  simp only [oAdd]
  rw [if_pos h]
theorem oAdd_t {a b : List D} (h : a.length + b.length ≤ 16777216) : oAdd (.tuple a) (.tuple b) = some (.tuple (a ++ b)) := by
  simp only [oAdd]
  rw [if_pos h]
theorem oAddL_l {a b : List D} (h : a.length + b.length ≤ 16777216) : oAddL (.list a) (.list b) = some (.list (a ++ b)) := by
  simp only [oAddL]
  rw [if_pos h]
theorem oSub_i {a b : Int} : oSub (.int a) (.int b) = some (.int (a - b)) := rfl
theorem oMul_i {a b : Int} (h : (-(2 ^ 64) < a ∧ a < 2 ^ 64) ∨ (-(2 ^ 64) < b ∧ b < 2 ^ 64)) : oMul (.int a) (.int b) = some (.int (a * b)) := by
  simp only [oMul]
  rw [if_pos h]
theorem oMul_s {a : List Nat} {k : Int} (h : k ≤ 16777216 ∧ a.length * k.toNat ≤ 16777216 ∧ 0 ≤ k) : oMul (ps a) (.int k) = some (ps (List.replicate k.toNat a).flatten) := by
  simp only [oMul, cl_mk]
  rw [if_pos h]
theorem oMul_l {a : List D} {k : Int} (h : a.length * k.toNat ≤ 16777216 ∧ -(2 ^ 63) ≤ k ∧ k < 2 ^ 63) : oMul (.list a) (.int k) = some (.list (List.replicate k.toNat a).flatten) := by
  simp only [oMul]
  rw [if_pos h]
theorem oMulL_l {a : List D} {k : Int} (h : a.length * k.toNat ≤ 16777216 ∧ -(2 ^ 63) ≤ k ∧ k < 2 ^ 63) : oMulL (.list a) (.int k) = some (.list (List.replicate k.toNat a).flatten) := by
  simp only [oMulL]
  rw [if_pos h]
theorem oMul_t {a : List D} {k : Int} (h : a ≠ [] ∧ 1 ≤ k ∧ k ≤ 1000 ∧ a.length ≤ 1000) : oMul (.tuple a) (.int k) = some (.tuple (List.replicate k.toNat a).flatten) := by
  simp only [oMul]
  rw [if_pos h]
theorem oDiv_i {a b : Int} (h : 0 < b ∧ b < 1073741824) : oDiv (.int a) (.int b) = some (.int (a / b)) := by
  simp only [oDiv]
  rw [if_pos h]
theorem oMod_i {a b : Int} (h : 0 < b) : oMod (.int a) (.int b) = some (.int (a % b)) := by
  simp only [oMod]
  rw [if_pos h]
theorem oLt_i {a b : Int} : oLt (.int a) (.int b) = some (.bool (decide (a < b))) := rfl
theorem oLt_s {a b : List Nat} : oLt (ps a) (ps b) = some (.bool (decide (a < b))) := by simp only [oLt, cl_mk]
theorem oLe_s {a b : List Nat} : oLe (ps a) (ps b) = some (.bool (!decide (b < a))) := by simp only [oLe, cl_mk]
theorem oLt_t {a b : List D} (h : okCmp (.tuple a) (.tuple b) = true) : oLt (.tuple a) (.tuple b) = some (.bool (PySem.W.dataLt (.tuple a) (.tuple b))) := if_pos h
theorem oLe_i {a b : Int} : oLe (.int a) (.int b) = some (.bool (decide (a ≤ b))) := rfl
theorem oGt_i {a b : Int} : oGt (.int a) (.int b) = some (.bool (decide (b < a))) := rfl
theorem oGe_i {a b : Int} : oGe (.int a) (.int b) = some (.bool (decide (b ≤ a))) := rfl
theorem oEq_of {x y : D} (h : min x.depth y.depth ≤ 64) : oEq x y = some (.bool (PyData.eqv x y)) := if_pos h
theorem oNe_of {x y : D} (h : min x.depth y.depth ≤ 64) : oNe x y = some (.bool (!PyData.eqv x y)) := if_pos h
theorem eqv_i {a b : Int} : PyData.eqv (.int a) (.int b) = decide (a = b) := by
  show (a == b) = _
  exact Bool.beq_eq_decide_eq a b
theorem oEq_i {a b : Int} : oEq (.int a) (.int b) = some (.bool (decide (a = b))) := by rw [oEq_of (by simp [PyData.depth]), eqv_i]
theorem oNe_i {a b : Int} : oNe (.int a) (.int b) = some (.bool (!decide (a = b))) := by rw [oNe_of (by simp [PyData.depth]), eqv_i]
theorem ps_inj {a b : List Nat} : ((⟨a.toArray⟩ : Str) == ⟨b.toArray⟩) = decide (a = b) := by
  by_cases h : a = b
  · subst h; simp
  · rw [decide_eq_false h]
    refine beq_eq_false_iff_ne.mpr fun e => h ?_
    have := congrArg cl e
    rwa [cl_mk, cl_mk] at this
theorem eqv_s {a b : List Nat} : PyData.eqv (ps a) (ps b) = decide (a = b) := by
  show ((⟨a.toArray⟩ : Str) == ⟨b.toArray⟩) = _
  exact ps_inj
theorem oEq_s {a b : List Nat} : oEq (ps a) (ps b) = some (.bool (decide (a = b))) := by rw [oEq_of (by simp [PyData.depth]), eqv_s]
theorem oNe_s {a b : List Nat} : oNe (ps a) (ps b) = some (.bool (!decide (a = b))) := by rw [oNe_of (by simp [PyData.depth]), eqv_s]
def isNonB : D → Bool
  | .none => true
  | _ => false
theorem oIs_n {d : D} : oIs d .none = some (.bool (isNonB d)) := by cases d <;> rfl
theorem oIsNot_n {d : D} : oIsNot d .none = some (.bool (!isNonB d)) := by cases d <;> rfl
theorem oIs_b {a b : Bool} : oIs (.bool a) (.bool b) = some (.bool (decide (a = b))) := rfl
theorem oIn_s {n : Nat} {b : List Nat} : oIn (ps [n]) (ps b) = some (.bool (decide (n ∈ b))) := by
  simp only [oIn, isIn, cl_mk, Option.map_some]
theorem bLen_l {ds : List D} : bLen (.list ds) = some (.int ds.length) := rfl
theorem bLen_t {ds : List D} : bLen (.tuple ds) = some (.int ds.length) := rfl
theorem bLen_s {a : List Nat} : bLen (ps a) = some (.int a.length) := by simp only [bLen, cl_mk]
theorem bInt_i {i : Int} : bInt (.int i) = some (.int i) := rfl
theorem bStr_s {s : Str} : bStr (.str s) = some (.str s) := rfl
theorem bTuple_l {ds : List D} : bTuple (.list ds) = some (.tuple ds) := rfl
theorem bTuple_t {ds : List D} : bTuple (.tuple ds) = some (.tuple ds) := rfl
theorem bList_l {ds : List D} : bList (.list ds) = some (.list ds) := rfl
theorem bList_t {ds : List D} : bList (.tuple ds) = some (.list ds) := rfl
theorem bTupleA_l {ds : List D} : bTupleA (.list ds) = some (.tuple ds) := rfl
theorem bTupleA_t {ds : List D} : bTupleA (.tuple ds) = some (.tuple ds) := rfl
theorem bTupleA_s {a : List Nat} : bTupleA (ps a) = some (.tuple (a.map fun n => ps [n])) := by simp only [bTupleA, signsD, cl_mk]
theorem bListA_l {ds : List D} : bListA (.list ds) = some (.list ds) := rfl
theorem bListA_t {ds : List D} : bListA (.tuple ds) = some (.list ds) := rfl
theorem bListA_s {a : List Nat} : bListA (ps a) = some (.list (a.map fun n => ps [n])) := by simp only [bListA, signsD, cl_mk]
theorem bRev_l {ds : List D} : bRev (.list ds) = some (.list ds.reverse) := rfl
theorem bRev_t {ds : List D} : bRev (.tuple ds) = some (.tuple ds.reverse) := rfl
theorem bRev_s {a : List Nat} : bRev (ps a) = some (ps a.reverse) := by simp only [bRev, cl_mk]
theorem mCount_s {a : List Nat} {n : Nat} : mCount (ps a) (ps [n]) = some (.int (a.count n)) := by simp only [mCount, cl_mk]
theorem sZip_e {f g : SE} {Γ : Ev} {c : Cup} : sZip f g Γ c = (f Γ c).bind fun p => (g Γ p.2).bind fun q => (itemsOf p.1).bind fun ds => (itemsOf q.1).map fun es => (zipD ds es, q.2) := rfl
theorem sEnum_e {f : SE} {Γ : Ev} {c : Cup} : sEnum f Γ c = (f Γ c).bind fun p => (itemsOf p.1).map fun ds => (enumD 0 ds, p.2) := rfl
theorem sComp2_e {vs : List Nat} {src : SA} {tg : STg} {cd : STst} {vs1 : List Nat} {src1 : SA} {tg1 : STg} {cd1 : STst} {f : SE} {Γ : Ev} {c : Cup} : sComp2 vs src tg cd vs1 src1 tg1 cd1 f Γ c = (src Γ c).bind fun p => (compD2 tg cd src1 vs1 tg1 cd1 f p.1 (wipeE Γ vs) p.2).bind fun q => if q.1.length ≤ 16777216 then some (.list q.1, q.2) else none := rfl
theorem sLstR_e {src : SA} {Γ : Ev} {c : Cup} : sLstR src Γ c = (src Γ c).bind fun p => if p.1.length ≤ 16777216 then some (.list p.1, p.2) else none := rfl
theorem sTupR_e {src : SA} {Γ : Ev} {c : Cup} : sTupR src Γ c = (src Γ c).bind fun p => if p.1.length ≤ 16777216 then some (.tuple p.1, p.2) else none := rfl
theorem itemsOf_l {ds : List D} : itemsOf (.list ds) = some ds := rfl
theorem itemsOf_t {ds : List D} : itemsOf (.tuple ds) = some ds := rfl
theorem itemsOf_s {a : List Nat} : itemsOf (ps a) = some (a.map fun n => ps [n]) := by simp only [itemsOf, cl_mk]
theorem boolsOf_map {α : Type} (l : List α) (f : α → Bool) : boolsOf (l.map fun x => .bool (f x)) = some (l.map f) := by
  induction l with
  | nil => rfl
  | cons x r ih =>
    show (boolsOf (r.map fun x => PyData.bool (f x))).map (f x :: ·) = _
    rw [ih]
    rfl
theorem intsOf_ints (l : List Int) : intsOf (l.map .int) = some l := by
  induction l with
  | nil => rfl
  | cons x r ih =>
    show (intsOf (r.map PyData.int)).map (x :: ·) = _
    rw [ih]
    rfl
theorem strsOf_map {α : Type} (l : List α) (f : α → List Nat) : strsOf (l.map fun x => ps (f x)) = some (l.map fun x => ⟨(f x).toArray⟩) := by
  induction l with
  | nil => rfl
  | cons x r ih =>
    show (strsOf (r.map fun x => ps (f x))).map (_ :: ·) = _
    rw [ih]
    rfl
theorem bAll_map {α : Type} (l : List α) (f : α → Bool) : bAll (.list (l.map fun x => .bool (f x))) = some (.bool (l.all f)) := by
  show (boolsOf _).map _ = _
  rw [boolsOf_map]
  show some (PyData.bool ((l.map f).all fun b => b)) = _
  rw [List.all_map]
  rfl
theorem atI_lt {α : Type} {xs : List α} {i : Int} (h0 : 0 ≤ i) (h : i < xs.length) : atI xs i = xs[i.toNat]? := by
  unfold atI ixN
  rw [if_pos h0, if_pos h]
  rfl
theorem atI_neg {α : Type} {xs : List α} {i : Int} (h0 : i < 0) (h : -(xs.length : Int) ≤ i) : atI xs i = xs[(i + xs.length).toNat]? := by
  unfold atI ixN
  rw [if_neg (by omega), if_pos h]
  rfl
/-! ### loops -/
/-- a comprehension that draws nothing -/
theorem compD_map {tg : STg} {f : SE} {g : D → D} {Γ : Ev} {c : Cup} : ∀ {ds : List D}, (∀ d ∈ ds, ∃ Γ', tg d Γ = some Γ' ∧ f Γ' c = some (g d, c)) → compD tg sYes f ds Γ c = some (ds.map g, c)
  | [], _ => rfl
  | d :: r, h => by
    obtain ⟨Γ', h1, h2⟩ := h d List.mem_cons_self
    show (tg d Γ).bind _ = _
    rw [h1]
    show (f Γ' c).bind (fun p => (compD tg sYes f r Γ p.2).map fun q => (p.1 :: q.1, q.2)) = _
    rw [h2]
    show (compD tg sYes f r Γ c).map _ = _
    rw [compD_map fun e he => h e (List.mem_cons_of_mem _ he)]
    rfl
theorem compD_filter {tg : STg} {cd : STst} {f : SE} {p : D → Bool} {g : D → D} {Γ : Ev} {c : Cup} : ∀ {ds : List D}, (∀ d ∈ ds, ∃ Γ', tg d Γ = some Γ' ∧ cd Γ' c = some (p d, c) ∧ (p d = true → f Γ' c = some (g d, c))) → compD tg cd f ds Γ c = some ((ds.filter p).map g, c)
  | [], _ => rfl
  | d :: r, h => by
    obtain ⟨Γ', h1, h2, h3⟩ := h d List.mem_cons_self
    show (tg d Γ).bind _ = _
    rw [h1]
    show (cd Γ' c).bind _ = _
    rw [h2]
    have ih := compD_filter (fun e he => h e (List.mem_cons_of_mem _ he)) (tg := tg) (cd := cd) (f := f) (p := p) (g := g) (Γ := Γ) (c := c)
    cases hp : p d with
    | true =>
      show (f Γ' c).bind (fun p => (compD tg cd f r Γ p.2).map fun q => (p.1 :: q.1, q.2)) = _
      rw [h3 hp]
      show (compD tg cd f r Γ c).map _ = _
      rw [ih, List.filter_cons_of_pos hp]
      rfl
    | false =>
      show compD tg cd f r Γ c = _
      rw [ih, List.filter_cons_of_neg (by simp [hp])]
/-- a comprehension that draws -/
theorem compD_draw {tg : STg} {f : SE} {P : D → D → Prop} {Γ : Ev} : ∀ {ds : List D}, (∀ d ∈ ds, ∀ c, CupOk c → ∃ Γ' e c', tg d Γ = some Γ' ∧ f Γ' c = some (e, c') ∧ CupOk c' ∧ P d e) → ∀ c, CupOk c → ∃ out c', compD tg sYes f ds Γ c = some (out, c') ∧ CupOk c' ∧ Paired P ds out
  | [], _, c, hc => ⟨[], c, rfl, hc, .nil⟩
  | d :: r, h, c, hc => by
    obtain ⟨Γ', e, c1, h1, h2, h3, h4⟩ := h d List.mem_cons_self c hc
    obtain ⟨out, c2, h5, h6, h7⟩ := compD_draw (fun e he => h e (List.mem_cons_of_mem _ he)) c1 h3
    refine ⟨e :: out, c2, ?_, h6, .cons h4 h7⟩
    show (tg d Γ).bind _ = _
    rw [h1]
    show (f Γ' c).bind (fun p => (compD tg sYes f r Γ p.2).map fun q => (p.1 :: q.1, q.2)) = _
    rw [h2]
    show (compD tg sYes f r Γ c1).map _ = _
    rw [h5]
    rfl
/-- a loop by its invariant over the items to come -/
theorem forD_inv {tg : STg} {b : SS} (I : List D → Ev → Cup → Prop) : ∀ {ds : List D}, (∀ d r Γ c, (∃ pre, ds = pre ++ d :: r) → I (d :: r) Γ c → ∃ Γ' Γ2 c2, tg d Γ = some Γ' ∧ (b Γ' c = some (.nx Γ2 c2) ∨ b Γ' c = some (.ct Γ2 c2)) ∧ I r Γ2 c2) → ∀ Γ c, I ds Γ c → ∃ Γ2 c2, forD tg b ds Γ c = some (.nx Γ2 c2) ∧ I [] Γ2 c2
  | [], _, Γ, c, hi => ⟨Γ, c, rfl, hi⟩
  | d :: r, h, Γ, c, hi => by
    obtain ⟨Γ', Γ2, c2, h1, h2, h3⟩ := h d r Γ c ⟨[], rfl⟩ hi
    obtain ⟨Γ3, c3, h4, h5⟩ := forD_inv I (fun d' r' Γ c ⟨pre, e⟩ => h d' r' Γ c ⟨d :: pre, by rw [e]; rfl⟩) Γ2 c2 h3
    refine ⟨Γ3, c3, ?_, h5⟩
    show (tg d Γ).bind _ = _
    rw [h1]
    show (b Γ' c).bind _ = _
    rcases h2 with h2 | h2
    · rw [h2]; exact h4
    · rw [h2]; exact h4
/-- .. over a range -/
theorem rangeD_len (lo : Int) (n : Nat) : (rangeD lo n).length = n := by unfold rangeD; rw [List.length_map, List.length_range]
theorem forD_range {tg : STg} {b : SS} {lo : Int} {n : Nat} (I : Nat → Ev → Cup → Prop) (h : ∀ i Γ c, i < n → I i Γ c → ∃ Γ' Γ2 c2, tg (.int (lo + i)) Γ = some Γ' ∧ (b Γ' c = some (.nx Γ2 c2) ∨ b Γ' c = some (.ct Γ2 c2)) ∧ I (i + 1) Γ2 c2) {Γ : Ev} {c : Cup} (h0 : I 0 Γ c) :
    ∃ Γ2 c2, forD tg b (rangeD lo n) Γ c = some (.nx Γ2 c2) ∧ I n Γ2 c2 := by
  obtain ⟨Γ2, c2, h1, h2⟩ := forD_inv (tg := tg) (b := b) (fun r Γ c => ∃ i, i ≤ n ∧ r = (rangeD lo n).drop i ∧ I i Γ c) (ds := rangeD lo n) (fun d r Γ c _ ⟨i, hi, hr, hI⟩ => by
    have hlt : i < n := by
      rcases Nat.lt_or_ge i n with h | h
      · exact h
      · rw [List.drop_eq_nil_of_le (by rw [rangeD_len]; exact h)] at hr
        cases hr
    have hg : (rangeD lo n)[i]? = some (.int (lo + i)) := by
      unfold rangeD
      rw [List.getElem?_map, List.getElem?_range hlt]
      rfl
    rw [drop_get hg] at hr
    cases hr
    obtain ⟨Γ', Γ2, c2, h1, h2, h3⟩ := h i Γ c hlt hI
    exact ⟨Γ', Γ2, c2, h1, h2, i + 1, hlt, rfl, h3⟩) Γ c ⟨0, Nat.zero_le _, rfl, h0⟩
  obtain ⟨i, hi, hr, hI⟩ := h2
  have : n ≤ i := by
    have := congrArg List.length hr
    rw [List.length_drop, rangeD_len] at this
    simp at this
    omega
  have e : i = n := by omega
  subst e
  exact ⟨Γ2, c2, h1, hI⟩
/-- a while by fuel -/
theorem whD_more {t : STst} {b : SS} : ∀ {n m : Nat} {Γ : Ev} {c : Cup} {o : Out}, whD t b n Γ c = some o → n ≤ m → whD t b m Γ c = some o
  | 0, _, _, _, _, h, _ => by cases h
  | n + 1, 0, _, _, _, _, hm => by omega
  | n + 1, m + 1, Γ, c, o, h, hm => by
    unfold whD at h ⊢
    obtain ⟨⟨b1, c1⟩, e1, e2⟩ := bind_some' h
    rw [e1]
    cases b1 with
    | false => exact e2
    | true =>
      obtain ⟨o2, e3, e4⟩ := bind_some' e2
      show (b Γ c1).bind _ = _
      rw [e3]
      cases o2 with
      | nx Γ2 c2 => exact whD_more e4 (by omega)
      | ct Γ2 c2 => exact whD_more e4 (by omega)
      | bk Γ2 c2 => exact e4
      | rt d c2 => exact e4
/-- a while by an invariant and a measure -/
theorem whD_inv {t : STst} {b : SS} (I : Nat → Ev → Cup → Prop) (J : Ev → Cup → Prop) (h : ∀ m Γ c, I m Γ c → (∃ c', t Γ c = some (false, c') ∧ J Γ c') ∨ ∃ c1 Γ2 c2 m', t Γ c = some (true, c1) ∧ (b Γ c1 = some (.nx Γ2 c2) ∨ b Γ c1 = some (.ct Γ2 c2)) ∧ m' < m ∧ I m' Γ2 c2) :
    ∀ n m Γ c, m < n → I m Γ c → ∃ Γ' c', whD t b n Γ c = some (.nx Γ' c') ∧ J Γ' c' := by
  intro n
  induction n with
  | zero => intro m Γ c hm; omega
  | succ n ih =>
    intro m Γ c hm hi
    rcases h m Γ c hi with ⟨c', h1, h2⟩ | ⟨c1, Γ2, c2, m', h1, h2, h3, h4⟩
    · refine ⟨Γ, c', ?_, h2⟩
      unfold whD
      rw [h1]
      rfl
    · obtain ⟨Γ', c', h5, h6⟩ := ih m' Γ2 c2 (by omega) h4
      refine ⟨Γ', c', ?_, h6⟩
      unfold whD
      rw [h1]
      show (b Γ c1).bind _ = _
      rcases h2 with h2 | h2
      · rw [h2]; exact h5
      · rw [h2]; exact h5
/-! ### smallest and greatest -/
def mnL : List Int → Int
  | [] => 0
  | n :: r => r.foldl min n
def mxL : List Int → Int
  | [] => 0
  | n :: r => r.foldl max n
theorem mnL_mem {l : List Int} (h : l ≠ []) : mnL l ∈ l ∧ ∀ y ∈ l, mnL l ≤ y := by
  cases l with
  | nil => exact absurd rfl h
  | cons n r => exact foldl_min_spec n r
theorem mxL_mem {l : List Int} (h : l ≠ []) : mxL l ∈ l ∧ ∀ y ∈ l, y ≤ mxL l := by
  cases l with
  | nil => exact absurd rfl h
  | cons n r => exact foldl_max_spec n r
theorem bMin_t {l : List Int} (h : l ≠ []) : bMin (.tuple (l.map .int)) = some (.int (mnL l)) := by
  show minG (l.map PyData.int) = _
  unfold minG
  rw [intsOf_ints]
  cases l with
  | nil => exact absurd rfl h
  | cons n r => rfl
theorem bMin_l {l : List Int} (h : l ≠ []) : bMin (.list (l.map .int)) = some (.int (mnL l)) := by
  show minG (l.map PyData.int) = _
  unfold minG
  rw [intsOf_ints]
  cases l with
  | nil => exact absurd rfl h
  | cons n r => rfl
theorem bMax_t {l : List Int} (h : l ≠ []) : bMax (.tuple (l.map .int)) = some (.int (mxL l)) := by
  show maxG (l.map PyData.int) = _
  unfold maxG
  rw [intsOf_ints]
  cases l with
  | nil => exact absurd rfl h
  | cons n r => rfl
theorem bMax_l {l : List Int} (h : l ≠ []) : bMax (.list (l.map .int)) = some (.int (mxL l)) := by
  show maxG (l.map PyData.int) = _
  unfold maxG
  rw [intsOf_ints]
  cases l with
  | nil => exact absurd rfl h
  | cons n r => rfl
theorem bSum_l {l : List Int} : bSum (.list (l.map .int)) = some (.int l.sum) := by
  show (intsOf (l.map PyData.int)).map _ = _
  rw [intsOf_ints]
  rfl
theorem sum_ind (k : Nat) : ∀ m : Nat, k ≤ m → ((List.range m).map fun j => ((if j < k then 1 else 0 : Nat) : Int)).sum = k
  | 0, h => by
    have e : k = 0 := by omega
    subst e
    rfl
  | m + 1, h => by
    rw [List.range_succ, List.map_append, List.sum_append]
    by_cases hk : k ≤ m
    · rw [sum_ind k m hk, List.map_cons, List.map_nil, if_neg (by omega)]
      simp
    · have e : k = m + 1 := by omega
      have e2 : ((List.range m).map fun j => ((if j < k then 1 else 0 : Nat) : Int)) = (List.range m).map fun j => ((if j < m then 1 else 0 : Nat) : Int) := List.map_congr_left fun j hj => by
        have := List.mem_range.mp hj
        rw [if_pos (by omega), if_pos this]
      rw [e2, sum_ind m m (Nat.le_refl _), e]
      simp
theorem sum_add (f g : Nat → Int) : ∀ l : List Nat, (l.map fun j => f j + g j).sum = (l.map f).sum + (l.map g).sum
  | [] => rfl
  | x :: r => by
    rw [List.map_cons, List.map_cons, List.map_cons, List.sum_cons, List.sum_cons, List.sum_cons, sum_add f g r]
    omega
theorem sum_const (a : Int) : ∀ m : Nat, ((List.range m).map fun _ => a).sum = m * a
  | 0 => by simp
  | m + 1 => by
    rw [List.range_succ, List.map_append, List.sum_append, sum_const a m]
    simp
    rw [Int.add_mul]
    omega
theorem tgTup2_e {i j : Nat} {a b : D} {Γ : Ev} : tgTup 2 (tgCons (tgN i) (tgCons (tgN j) tgNil)) (.tuple [a, b]) Γ = some ((Γ.set i (some a)).set j (some b)) := rfl
theorem joinL_nil_ones : ∀ l : List Nat, joinL [] (l.map fun n => [n]) = l
  | [] => rfl
  | [x] => rfl
  | x :: y :: r => by
    show [x] ++ [] ++ joinL [] ((y :: r).map fun n => [n]) = _
    rw [joinL_nil_ones (y :: r)]
    rfl
/-- ''.join of signs -/
theorem mJoin_ones {l : List Nat} (h : l.length ≤ 16777216) : mJoin (ps []) (.list (l.map fun n => ps [n])) = some (ps l) := by
  show (strsOf (l.map fun n => ps [n])).bind _ = _
  rw [show (l.map fun n => ps [n]) = l.map fun n => ps ((fun n => [n]) n) from rfl, strsOf_map]
  show (if _ then some _ else none) = _
  have e1 : ((l.map fun x => (⟨([x] : List Nat).toArray⟩ : Str)).map fun s => (cl s).length).sum = l.length := by
    rw [List.map_map]
    clear h
    induction l with
    | nil => rfl
    | cons x r ih => rw [List.map_cons, List.sum_cons, ih, List.length_cons]; show 1 + _ = _; omega
  have e2 : (l.map fun x => (⟨([x] : List Nat).toArray⟩ : Str)).map cl = l.map fun n => [n] := by rw [List.map_map]; rfl
  rw [if_pos (by rw [e1, cl_mk]; simp; exact h), e2, cl_mk, joinL_nil_ones]
theorem compD_mapA {α : Type} {tg : STg} {f : SE} {h g : α → D} {Γ : Ev} {c : Cup} : ∀ {l : List α}, (∀ x ∈ l, ∃ Γ', tg (h x) Γ = some Γ' ∧ f Γ' c = some (g x, c)) → compD tg sYes f (l.map h) Γ c = some (l.map g, c)
  | [], _ => rfl
  | x :: r, k => by
    obtain ⟨Γ', h1, h2⟩ := k x List.mem_cons_self
    show (tg (h x) Γ).bind _ = _
    rw [h1]
    show (f Γ' c).bind (fun p => (compD tg sYes f (r.map h) Γ p.2).map fun q => (p.1 :: q.1, q.2)) = _
    rw [h2]
    show (compD tg sYes f (r.map h) Γ c).map _ = _
    rw [compD_mapA fun e he => k e (List.mem_cons_of_mem _ he)]
    rfl
theorem compD_filterA {α : Type} {tg : STg} {cd : STst} {f : SE} {h g : α → D} {p : α → Bool} {Γ : Ev} {c : Cup} : ∀ {l : List α}, (∀ x ∈ l, ∃ Γ', tg (h x) Γ = some Γ' ∧ cd Γ' c = some (p x, c) ∧ (p x = true → f Γ' c = some (g x, c))) → compD tg cd f (l.map h) Γ c = some ((l.filter p).map g, c)
  | [], _ => rfl
  | x :: r, k => by
    obtain ⟨Γ', h1, h2, h3⟩ := k x List.mem_cons_self
    show (tg (h x) Γ).bind _ = _
    rw [h1]
    show (cd Γ' c).bind _ = _
    rw [h2]
    have ih := compD_filterA (fun e he => k e (List.mem_cons_of_mem _ he)) (tg := tg) (cd := cd) (f := f) (p := p) (g := g) (h := h) (Γ := Γ) (c := c)
    cases hp : p x with
    | true =>
      show (f Γ' c).bind (fun p => (compD tg cd f (r.map h) Γ p.2).map fun q => (p.1 :: q.1, q.2)) = _
      rw [h3 hp]
      show (compD tg cd f (r.map h) Γ c).map _ = _
      rw [ih, List.filter_cons_of_pos hp]
      rfl
    | false =>
      show compD tg cd f (r.map h) Γ c = _
      rw [ih, List.filter_cons_of_neg (by simp [hp])]
theorem oSl_s {a : List Nat} {lo hi : Option Int} : oSl (ps a) lo hi = some (ps (Wk.cut a lo hi)) := by
  simp only [oSl, cl_mk]
theorem oSl_l {a : List D} {lo hi : Option Int} : oSl (.list a) lo hi = some (.list (Wk.cut a lo hi)) := rfl
theorem oSl_t {a : List D} {lo hi : Option Int} : oSl (.tuple a) lo hi = some (.tuple (Wk.cut a lo hi)) := rfl
theorem eqv_ln (xs : List D) : PyData.eqv (.list xs) (.list []) = xs.isEmpty := by cases xs <;> rfl
theorem oNe_ln {xs : List D} : oNe (.list xs) (.list []) = some (.bool (!xs.isEmpty)) := by
  rw [oNe_of (Nat.le_trans (Nat.min_le_right _ _) (by decide)), eqv_ln]
theorem oEq_ln {xs : List D} : oEq (.list xs) (.list []) = some (.bool xs.isEmpty) := by
  rw [oEq_of (Nat.le_trans (Nat.min_le_right _ _) (by decide)), eqv_ln]
theorem str_ps (s : Str) : PyData.str s = ps (cl s) := by
  show _ = PyData.str ⟨(cl s).toArray⟩
  unfold cl
  rw [Array.toArray_toList]
theorem forD_all {tg : STg} {b : SS} {Γ0 : Ev} {c : Cup} {i : Nat} : ∀ {ds : List D} {Γ : Ev}, (∀ d ∈ ds, ∀ Γ, (∃ x, Γ = Γ0.set i x) → ∃ Γ', tg d Γ = some Γ' ∧ (b Γ' c = some (.nx Γ' c)) ∧ ∃ x, Γ' = Γ0.set i x) → (∃ x, Γ = Γ0.set i x) → ∃ x, forD tg b ds Γ c = some (.nx (Γ0.set i x) c)
  | [], Γ, _, ⟨x, e⟩ => ⟨x, by rw [e]; rfl⟩
  | d :: r, Γ, h, hx => by
    obtain ⟨Γ', h1, h2, h3⟩ := h d List.mem_cons_self Γ hx
    obtain ⟨x, h4⟩ := forD_all (fun e he => h e (List.mem_cons_of_mem _ he)) h3 (tg := tg) (b := b)
    refine ⟨x, ?_⟩
    show (tg d Γ).bind _ = _
    rw [h1]
    show (b Γ' c).bind _ = _
    rw [h2]
    exact h4
theorem oIx_s {a : List Nat} {i : Int} : oIx (ps a) (.int i) = (atI a i).map fun n => ps [n] := by simp only [oIx, cl_mk]
theorem oIx_l {a : List D} {i : Int} : oIx (.list a) (.int i) = atI a i := rfl
theorem oIx_t {a : List D} {i : Int} : oIx (.tuple a) (.int i) = atI a i := rfl
def unpD (is : List Nat) : D → Ev → Cup → Option Out
  | .tuple ds, Γ, c => if ds.length = is.length then (setAll is ds Γ).map fun Γ' => .nx Γ' c else none
  | _, _, _ => none
theorem sUnp_e {is : List Nat} {f : SE} {Γ : Ev} {c : Cup} : sUnp is f Γ c = (f Γ c).bind fun p => unpD is p.1 Γ p.2 := by
  unfold sUnp
  congr 1
  funext p
  obtain ⟨d, c⟩ := p
  cases d <;> rfl
theorem unpD_t {is : List Nat} {ds : List D} {Γ : Ev} {c : Cup} (h : ds.length = is.length) : unpD is (.tuple ds) Γ c = (setAll is ds Γ).map fun Γ' => .nx Γ' c := if_pos h
theorem bAll_2 {a b : Bool} : bAll (.list [.bool a, .bool b]) = some (.bool (a && b)) := by cases a <;> cases b <;> rfl
theorem ite_int {p : Prop} [Decidable p] (a b : Int) {c : Cup} : (if p then some (PyData.int a, c) else some (PyData.int b, c)) = some (PyData.int (if p then a else b), c) := by split <;> rfl
theorem unpD_2 {i j : Nat} {a b : D} {Γ : Ev} {c : Cup} : unpD [i, j] (.tuple [a, b]) Γ c = some (.nx ((Γ.set i (some a)).set j (some b)) c) := rfl
theorem unpD_3 {i j k : Nat} {a b e : D} {Γ : Ev} {c : Cup} : unpD [i, j, k] (.tuple [a, b, e]) Γ c = some (.nx (((Γ.set i (some a)).set j (some b)).set k (some e)) c) := rfl
theorem unpD_4 {i j k l : Nat} {a b e f : D} {Γ : Ev} {c : Cup} : unpD [i, j, k, l] (.tuple [a, b, e, f]) Γ c = some (.nx ((((Γ.set i (some a)).set j (some b)).set k (some e)).set l (some f)) c) := rfl
theorem any_int {i : Int} : ∀ l : List Int, ((l.map PyData.int).any fun y => PyData.eqv y (.int i)) = decide (i ∈ l)
  | [] => rfl
  | j :: r => by
    rw [List.map_cons, List.any_cons, any_int r, eqv_i, Bool.eq_iff_iff]
    simp only [Bool.or_eq_true, decide_eq_true_eq, List.mem_cons]
    exact ⟨fun h => h.imp Eq.symm id, fun h => h.imp Eq.symm id⟩
theorem oIn_i {i : Int} {l : List Int} : oIn (.int i) (.list (l.map .int)) = some (.bool (decide (i ∈ l))) := by
  simp only [oIn, isIn]
  rw [if_pos (Nat.le_trans (Nat.min_le_right _ _) (by simp [PyData.depth])), any_int]
  rfl
theorem oNotIn_i {i : Int} {l : List Int} : oNotIn (.int i) (.list (l.map .int)) = some (.bool (!decide (i ∈ l))) := by
  simp only [oNotIn, isIn]
  rw [if_pos (Nat.le_trans (Nat.min_le_right _ _) (by simp [PyData.depth])), any_int]
  rfl
theorem bSum_t {l : List Int} : bSum (.tuple (l.map .int)) = some (.int l.sum) := by
  show (intsOf (l.map PyData.int)).map _ = _
  rw [intsOf_ints]
  rfl
/-! ### sorted ints -/
theorem dataLe_i (a b : Int) : PySem.W.dataLe false id (PyData.int a) (PyData.int b) = decide (a ≤ b) := by
  show (!(PyProof.Rows.lexLt PyProof.Rows.itemOrd [.inl b] [.inl a])) = _
  have h : PyProof.Rows.lexLt PyProof.Rows.itemOrd [.inl b] [.inl a] = decide (b < a) := by
    simp only [PyProof.Rows.lexLt]
    rw [Bool.and_false, Bool.or_false]
    rfl
  rw [h]
  by_cases h2 : a ≤ b
  · rw [decide_eq_true h2, decide_eq_false (by omega)]; rfl
  · rw [decide_eq_false h2, decide_eq_true (by omega)]; rfl
def srt (l : List Int) : List Int := l.mergeSort fun a b => decide (a ≤ b)
theorem sortD_i (l : List Int) : sortD (l.map .int) = (srt l).map .int := by
  unfold sortD srt
  exact (List.map_mergeSort (r := fun a b => decide (a ≤ b)) (s := PySem.W.dataLe false id) (f := PyData.int) (l := l) fun a _ b _ => (dataLe_i a b).symm).symm
theorem srt_perm (l : List Int) : (srt l).Perm l := List.mergeSort_perm _ _
theorem srt_sorted (l : List Int) : (srt l).Pairwise (· ≤ ·) := by
  have h := List.pairwise_mergeSort (le := fun a b : Int => decide (a ≤ b)) (fun a b c h1 h2 => by simp at h1 h2 ⊢; omega) (fun a b => by simp; omega) l
  exact h.imp fun h => by simpa using h
theorem okSort_i {l : List Int} (h : l.length ≤ 16777216) : okSort (l.map .int) = true := by
  unfold okSort
  simp only [Bool.and_eq_true, Bool.or_eq_true, List.all_eq_true, decide_eq_true_eq]
  refine ⟨⟨⟨fun d hd d' hd' => ?_, .inr fun d hd => ?_⟩, by rw [List.length_map]; exact h⟩, fun d hd => ?_⟩
  · obtain ⟨i, _, rfl⟩ := List.mem_map.mp hd
    obtain ⟨j, _, rfl⟩ := List.mem_map.mp hd'
    rfl
  · obtain ⟨i, _, rfl⟩ := List.mem_map.mp hd
    rfl
  · obtain ⟨i, _, rfl⟩ := List.mem_map.mp hd
    simp [PyData.depth]
theorem bSorted_t {l : List Int} (h : l.length ≤ 16777216) : bSorted (.tuple (l.map .int)) = some (.list ((srt l).map .int)) := by
  simp only [bSorted]
  rw [if_pos (okSort_i h), sortD_i]
theorem bSorted_l {l : List Int} (h : l.length ≤ 16777216) : bSorted (.list (l.map .int)) = some (.list ((srt l).map .int)) := by
  simp only [bSorted]
  rw [if_pos (okSort_i h), sortD_i]
theorem srt_len (l : List Int) : (srt l).length = l.length := (srt_perm l).length_eq
theorem srt_first {l : List Int} (h : l ≠ []) : (srt l)[0]? = some (mnL l) := by
  have hs := srt_sorted l
  have hp := srt_perm l
  cases e : srt l with
  | nil => rw [e] at hp; exact absurd hp.symm.eq_nil h
  | cons x r =>
    rw [e] at hs hp
    obtain ⟨h1, h2⟩ := mnL_mem h
    have hx : x ∈ l := hp.mem_iff.mp List.mem_cons_self
    have := h2 x hx
    have hm : mnL l ∈ x :: r := hp.mem_iff.mpr h1
    have : x ≤ mnL l := by
      rcases List.mem_cons.mp hm with e | hm
      · omega
      · exact (List.pairwise_cons.mp hs).1 _ hm
    rw [List.getElem?_cons_zero]
    congr 1
    omega
theorem pw_last : ∀ {l : List Int}, l.Pairwise (· ≤ ·) → ∀ (h : l ≠ []), ∀ x ∈ l, x ≤ l.getLast h
  | [y], _, _, x, hx => by rw [List.mem_singleton.mp hx]; exact Int.le_refl _
  | y :: z :: r, hs, _, x, hx => by
    have h2 := List.pairwise_cons.mp hs
    rw [List.getLast_cons (by simp)]
    rcases List.mem_cons.mp hx with rfl | hx
    · exact Int.le_trans (h2.1 z List.mem_cons_self) (pw_last h2.2 (by simp) z List.mem_cons_self)
    · exact pw_last h2.2 (by simp) x hx
theorem srt_last {l : List Int} (h : l ≠ []) : (srt l)[(srt l).length - 1]? = some (mxL l) := by
  have hs := srt_sorted l
  have hp := srt_perm l
  have hne : srt l ≠ [] := fun e => by rw [e] at hp; exact h hp.symm.eq_nil
  obtain ⟨h1, h2⟩ := mxL_mem h
  have h3 : (srt l).getLast hne ∈ l := hp.mem_iff.mp (List.getLast_mem hne)
  have h4 := h2 _ h3
  have h5 := pw_last hs hne (mxL l) (hp.mem_iff.mpr h1)
  rw [← List.getLast?_eq_getElem?, List.getLast?_eq_some_getLast hne]
  congr 1
  omega
end Wk
set_option Elab.async false
set_option linter.all false
set_option maxRecDepth 100000
set_option maxHeartbeats 4000000
namespace Wk
open PySem PySem.Spec PyProof.Rows L2
/-! ### what the defs do -/
def b_is_whole : SS :=
  (sRet (sAndV (sIsi .int (sVar 0)) (sNotV (sIsi .bool (sVar 0)))))
def m_is_whole : List D → Cup → Option (D × Cup) := runD false 0 b_is_whole
def b_fits_whole : SS :=
  (sRet (sAndV (sCall m_is_whole (sCons (sVar 0) sNil)) (sChain oLe oLe (sVar 1) (sVar 0) (sVar 2))))
def m_fits_whole : List D → Cup → Option (D × Cup) := runD false 0 b_fits_whole
def b_fits_signs : SS :=
  (sRet (sAndV (sIsi .str (sVar 0)) (sAndV (sChain oLe oLe (sVar 1) (sU bLen (sVar 0)) (sVar 2)) (sU bAll (sComp [3] (sItems (sVar 0)) (tgN 3) sYes (sOp oIn (sVar 3) (sC (ps [105, 111]))))))))
def m_fits_signs : List D → Cup → Option (D × Cup) := runD false 1 b_fits_signs
def b_fits_word : SS :=
  (sRet (sCall m_fits_signs (sCons (sVar 0) (sCons (sC (.int 1)) (sCons (sC (.int 12)) sNil)))))
def m_fits_word : List D → Cup → Option (D × Cup) := runD false 0 b_fits_word
def b_need_word : SS :=
  (sIte (sNot (sB (sCall m_fits_word (sCons (sVar 0) sNil)))) sNever sSkip)
def m_need_word : List D → Cup → Option (D × Cup) := runD false 0 b_need_word
def b_need_stakes : SS :=
  (sIte (sNot (sB (sCall m_fits_whole (sCons (sVar 0) (sCons (sC (.int 3)) (sCons (sC (.int 24)) sNil)))))) sNever sSkip)
def m_need_stakes : List D → Cup → Option (D × Cup) := runD false 0 b_need_stakes
def b_wound_in : SS :=
  (sRet (sOp mJoin (sC (ps [])) (sComp [3] (sRange1 (sVar 1)) (tgN 3) sYes (sOp oIx (sVar 0) (sOp oMod (sOp oAdd (sVar 2) (sVar 3)) (sU bLen (sVar 0)))))))
def m_wound_in : List D → Cup → Option (D × Cup) := runD false 1 b_wound_in
def b_columns_in : SS :=
  (sRet (sComp [1] (sRange1 (sU bLen (sOp oIx (sVar 0) (sC (.int 0))))) (tgN 1) sYes (sOp mJoin (sC (ps [])) (sComp [2] (sItems (sVar 0)) (tgN 2) sYes (sOp oIx (sVar 2) (sVar 1))))))
def m_columns_in : List D → Cup → Option (D × Cup) := runD false 2 b_columns_in
def b_need_rounds : SS :=
  (sIte (sNot (sB (sCall m_fits_whole (sCons (sVar 0) (sCons (sC (.int 1)) (sCons (sC (.int 40)) sNil)))))) sNever sSkip)
def m_need_rounds : List D → Cup → Option (D × Cup) := runD false 0 b_need_rounds
def b_need_length : SS :=
  (sIte (sNot (sB (sCall m_fits_whole (sCons (sVar 0) (sCons (sC (.int 1)) (sCons (sC (.int 8)) sNil)))))) sNever sSkip)
def m_need_length : List D → Cup → Option (D × Cup) := runD false 0 b_need_length
def b_rounds_in : SS :=
  (sRet (sU bTupleA (sComp [3] (sRange1 (sVar 2)) (tgN 3) sYes (sCall m_wound_in (sCons (sVar 0) (sCons (sVar 1) (sCons (sOp oMod (sOp oMul (sVar 3) (sVar 1)) (sU bLen (sVar 0))) sNil)))))))
def m_rounds_in : List D → Cup → Option (D × Cup) := runD false 1 b_rounds_in
abbrev b_words_in_1 : SS :=
  (sSet 1 (sComp2 [3, 4] (sItems (sVar 1)) (tgN 3) sYes [4] (sItems (sC (ps [105, 111]))) (tgN 4) sYes (sOp oAdd (sVar 3) (sVar 4))))
def b_words_in : SS :=
  (sSeq (sSet 1 (sLst (sCons (sC (ps [])) sNil)))
    (sSeq (sFor (sRange1 (sVar 0)) (tgN 2) b_words_in_1)
    (sRet (sVar 1))))
def m_words_in : List D → Cup → Option (D × Cup) := runD false 4 b_words_in
def b_is_mixed : SS :=
  (sRet (sAndV (sOp oIn (sC (ps [105])) (sVar 0)) (sOp oIn (sC (ps [111])) (sVar 0))))
def m_is_mixed : List D → Cup → Option (D × Cup) := runD false 0 b_is_mixed
def b_holds_in : SS :=
  (sRet (sU bAll (sComp [1] (sItems (sCall m_columns_in (sCons (sVar 0) sNil))) (tgN 1) sYes (sCall m_is_mixed (sCons (sVar 1) sNil)))))
def m_holds_in : List D → Cup → Option (D × Cup) := runD false 1 b_holds_in
def b_holding_in : SS :=
  (sRet (sComp [3] (sItems (sCall m_words_in (sCons (sVar 2) sNil))) (tgN 3) (sB (sCall m_holds_in (sCons (sCall m_rounds_in (sCons (sVar 3) (sCons (sVar 0) (sCons (sVar 1) sNil)))) sNil))) (sVar 3)))
def m_holding_in : List D → Cup → Option (D × Cup) := runD false 1 b_holding_in
abbrev b_rounds_to_hold_1 : SS :=
  (sIte (sB (sCall m_holds_in (sCons (sCall m_rounds_in (sCons (sVar 0) (sCons (sVar 1) (sCons (sVar 2) sNil)))) sNil))) (sRet (sVar 2)) sSkip)
def b_rounds_to_hold : SS :=
  (sSeq (sDrop (sCall m_need_word (sCons (sVar 0) sNil)))
    (sSeq (sDrop (sCall m_need_stakes (sCons (sVar 1) sNil)))
    (sSeq (sFor (sRange2 (sC (.int 1)) (sOp oAdd (sU bLen (sVar 0)) (sC (.int 1)))) (tgN 2) b_rounds_to_hold_1)
    (sRet (sC .none)))))
def m_rounds_to_hold : List D → Cup → Option (D × Cup) := runD false 1 b_rounds_to_hold
def b_holding_many : SS :=
  (sSeq (sDrop (sCall m_need_stakes (sCons (sVar 0) sNil)))
    (sSeq (sDrop (sCall m_need_rounds (sCons (sVar 1) sNil)))
    (sSeq (sDrop (sCall m_need_length (sCons (sVar 2) sNil)))
    (sRet (sU bLen (sCall m_holding_in (sCons (sVar 0) (sCons (sVar 1) (sCons (sVar 2) sNil)))))))))
def m_holding_many : List D → Cup → Option (D × Cup) := runD false 0 b_holding_many
abbrev b_first_holding_1 : SS :=
  (sSeq (sSet 3 (sCall m_holding_in (sCons (sVar 0) (sCons (sVar 1) (sCons (sVar 2) sNil)))))
    (sIte (sB (sOp oNe (sVar 3) (sLst sNil))) (sRet (sOp oIx (sVar 3) (sC (.int 0)))) sSkip))
def b_first_holding : SS :=
  (sSeq (sDrop (sCall m_need_stakes (sCons (sVar 0) sNil)))
    (sSeq (sDrop (sCall m_need_rounds (sCons (sVar 1) sNil)))
    (sSeq (sFor (sRange2 (sC (.int 1)) (sOp oAdd (sC (.int 8)) (sC (.int 1)))) (tgN 2) b_first_holding_1)
    (sRet (sC .none)))))
def m_first_holding : List D → Cup → Option (D × Cup) := runD false 2 b_first_holding
def b_never_holding : SS :=
  (sSeq (sDrop (sCall m_need_stakes (sCons (sVar 0) sNil)))
    (sSeq (sDrop (sCall m_need_length (sCons (sVar 1) sNil)))
    (sRet (sU bLen (sComp [2] (sItems (sCall m_words_in (sCons (sVar 1) sNil))) (tgN 2) (sNot (sB (sCall m_holds_in (sCons (sCall m_rounds_in (sCons (sVar 2) (sCons (sVar 0) (sCons (sVar 1) sNil)))) sNil)))) (sVar 2))))))
def m_never_holding : List D → Cup → Option (D × Cup) := runD false 1 b_never_holding
def b_unlike_rounds : SS :=
  (sSeq (sDrop (sCall m_need_word (sCons (sVar 0) sNil)))
    (sSeq (sDrop (sCall m_need_stakes (sCons (sVar 1) sNil)))
    (sRet (sU bLenSetA (sCall m_rounds_in (sCons (sVar 0) (sCons (sVar 1) (sCons (sU bLen (sVar 0)) sNil))))))))
def m_unlike_rounds : List D → Cup → Option (D × Cup) := runD false 0 b_unlike_rounds
def b_loose_behind : SS :=
  (sSeq (sDrop (sCall m_need_word (sCons (sVar 0) sNil)))
    (sSeq (sDrop (sCall m_need_stakes (sCons (sVar 1) sNil)))
    (sSeq (sDrop (sCall m_need_rounds (sCons (sVar 2) sNil)))
    (sSeq (sSet 3 (sCall m_columns_in (sCons (sCall m_rounds_in (sCons (sVar 0) (sCons (sVar 1) (sCons (sVar 2) sNil)))) sNil)))
    (sRet (sU bTupleA (sComp [4, 5] (sEnum (sVar 3)) (tgTup 2 (tgCons (tgN 4) (tgCons (tgN 5) tgNil))) (sNot (sB (sCall m_is_mixed (sCons (sVar 5) sNil)))) (sVar 4))))))))
def m_loose_behind : List D → Cup → Option (D × Cup) := runD false 3 b_loose_behind
abbrev b_loose_counts_1 : SS :=
  (sSeq (sSet 5 (sCall m_columns_in (sCons (sCall m_rounds_in (sCons (sVar 4) (sCons (sVar 0) (sCons (sVar 1) sNil)))) sNil)))
    (sAugI 3 (sU bLen (sComp [6] (sItems (sVar 5)) (tgN 6) (sNot (sB (sCall m_is_mixed (sCons (sVar 6) sNil)))) (sVar 6))) (sC (.int 1))))
def b_loose_counts : SS :=
  (sSeq (sDrop (sCall m_need_stakes (sCons (sVar 0) sNil)))
    (sSeq (sDrop (sCall m_need_rounds (sCons (sVar 1) sNil)))
    (sSeq (sDrop (sCall m_need_length (sCons (sVar 2) sNil)))
    (sSeq (sSet 3 (sOp oMulL (sLst (sCons (sC (.int 0)) sNil)) (sOp oAdd (sVar 0) (sC (.int 1)))))
    (sSeq (sFor (sItems (sCall m_words_in (sCons (sVar 2) sNil))) (tgN 4) b_loose_counts_1)
    (sRet (sU bTupleA (sVar 3))))))))
def m_loose_counts : List D → Cup → Option (D × Cup) := runD false 4 b_loose_counts
def b__law_roll : SS :=
  (sSeq (sIte (sB (sOp oGt sCup0 (sC (.int 0)))) (sSeq (sSet 2 (sOp oMod (sU bInt sCup0) (sVar 1)))
    (sSeq (sPut0 (sOp oDiv sCup0 (sVar 1)))
    (sRet (sVar 2)))) sSkip)
    (sSeq (sPut1 (sOp oMod (sU bInt (sOp oAdd (sOp oMul sCup1 (sC (.int 30941))) (sC (.int 7949)))) (sC (.int 2147482921))))
    (sSeq (sSet 3 (sOp oMod (sU bInt (sOp oMul sCup1 (sOp oAdd sCup1 (sC (.int 241))))) (sC (.int 2147482877))))
    (sRet (sOp oMod (sU bInt (sOp oDiv (sVar 3) (sC (.int 821)))) (sVar 1))))))
def m__law_roll : List D → Cup → Option (D × Cup) := runD true 2 b__law_roll
def b__law_some : SS :=
  (sRet (sOp oIx (sVar 1) (sCall m__law_roll (sCons (sU bLen (sVar 1)) sNil))))
def m__law_some : List D → Cup → Option (D × Cup) := runD true 0 b__law_some
def b__law_same (rec : List D → Cup → Option (D × Cup)) : SS :=
  (sSeq (sIte (sB (sIsi .tuple (sVar 1))) (sSeq (sIte (sOr (sNot (sB (sIsi .tuple (sVar 0)))) (sB (sOp oNe (sU bLen (sVar 0)) (sU bLen (sVar 1))))) (sRet (sC (.bool false))) sSkip)
    (sRet (sU bAll (sComp [2] (sRange1 (sU bLen (sVar 1))) (tgN 2) sYes (sCall rec (sCons (sOp oIx (sVar 0) (sVar 2)) (sCons (sOp oIx (sVar 1) (sVar 2)) sNil))))))) sSkip)
    (sSeq (sIte (sB (sOp oIs (sVar 1) (sC .none))) (sRet (sOp oIs (sVar 0) (sC .none))) sSkip)
    (sSeq (sIte (sB (sIsi .bool (sVar 1))) (sRet (sIf (sB (sVar 1)) (sOp oIs (sVar 0) (sC (.bool true))) (sOp oIs (sVar 0) (sC (.bool false))))) sSkip)
    (sSeq (sIte (sB (sIsi .int (sVar 1))) (sRet (sAndV (sIsi .int (sVar 0)) (sAndV (sNotV (sIsi .bool (sVar 0))) (sOp oEq (sU bInt (sVar 0)) (sVar 1))))) sSkip)
    (sRet (sAndV (sIsi .str (sVar 0)) (sOp oEq (sU bStr (sVar 0)) (sVar 1))))))))
def m__law_same : Nat → List D → Cup → Option (D × Cup)
  | 0 => fun _ _ => none
  | k + 1 => runD false 1 (b__law_same (m__law_same k))
def b__law_signs : SS :=
  (sRet (sOp mJoin (sC (ps [])) (sComp [2] (sRange1 (sVar 1)) (tgN 2) sYes (sCall m__law_some (sCons (sC (ps [105, 111])) sNil)))))
def m__law_signs : List D → Cup → Option (D × Cup) := runD true 1 b__law_signs
abbrev b__law_wound_1 : SS :=
  (sSets [3, 4] (sCons (sOp oAdd (sVar 3) (sOp oIx (sVar 0) (sVar 4))) (sCons (sIf (sB (sOp oLt (sOp oAdd (sVar 4) (sC (.int 1))) (sU bLen (sVar 0)))) (sOp oAdd (sVar 4) (sC (.int 1))) (sC (.int 0))) sNil)))
def b__law_wound : SS :=
  (sSeq (sSets [3, 4] (sCons (sC (ps [])) (sCons (sVar 2) sNil)))
    (sSeq (sFor (sRange1 (sVar 1)) (tgN 5) b__law_wound_1)
    (sRet (sVar 3))))
def m__law_wound : List D → Cup → Option (D × Cup) := runD false 3 b__law_wound
abbrev b__law_went_1 : SS :=
  (sSet 4 (sIf (sB (sOp oLt (sOp oAdd (sVar 4) (sC (.int 1))) (sU bLen (sVar 0)))) (sOp oAdd (sVar 4) (sC (.int 1))) (sC (.int 0))))
abbrev b__law_went_2 : SS :=
  (sSeq (sApp 3 (sCall m__law_wound (sCons (sVar 0) (sCons (sVar 1) (sCons (sVar 4) sNil)))))
    (sFor (sRange1 (sVar 1)) (tgN 6) b__law_went_1))
def b__law_went : SS :=
  (sSeq (sSets [3, 4] (sCons (sLst sNil) (sCons (sC (.int 0)) sNil)))
    (sSeq (sFor (sRange1 (sVar 2)) (tgN 5) b__law_went_2)
    (sRet (sU bTupleA (sVar 3)))))
def m__law_went : List D → Cup → Option (D × Cup) := runD false 4 b__law_went
abbrev b__law_words_1 : SS :=
  (sSet 3 (sOp oAdd (sVar 3) (sLst (sCons (sOp oAdd (sVar 4) (sC (ps [105]))) (sCons (sOp oAdd (sVar 4) (sC (ps [111]))) sNil)))))
abbrev b__law_words_2 : SS :=
  (sSeq (sSet 3 (sLst sNil))
    (sSeq (sFor (sItems (sVar 1)) (tgN 4) b__law_words_1)
    (sSet 1 (sVar 3))))
def b__law_words : SS :=
  (sSeq (sSet 1 (sLst (sCons (sC (ps [])) sNil)))
    (sSeq (sFor (sRange1 (sVar 0)) (tgN 2) b__law_words_2)
    (sRet (sVar 1))))
def m__law_words : List D → Cup → Option (D × Cup) := runD false 4 b__law_words
def b__law_loose : SS :=
  (sRet (sComp [1] (sRange1 (sU bLen (sOp oIx (sVar 0) (sC (.int 0))))) (tgN 1) (sB (sOp oEq (sU bLenSetA (sComp [2] (sItems (sVar 0)) (tgN 2) sYes (sOp oIx (sVar 2) (sVar 1)))) (sC (.int 1)))) (sVar 1)))
def m__law_loose : List D → Cup → Option (D × Cup) := runD false 2 b__law_loose
abbrev b__law_right_1 : SS :=
  (sSeq (sSet 13 (sIf (sB (sOp oIs (sVar 11) (sC .none))) (sComp [15] (sItems (sCall m__law_words (sCons (sVar 12) sNil))) (tgN 15) (sB (sOp oEq (sCall m__law_loose (sCons (sCall m__law_went (sCons (sVar 15) (sCons (sVar 1) (sCons (sVar 2) sNil)))) sNil)) (sLst sNil))) (sVar 15)) (sLst sNil)))
    (sSet 11 (sIf (sB (sOp oNe (sVar 13) (sLst sNil))) (sOp oIx (sVar 13) (sC (.int 0))) (sVar 11))))
def b__law_right : SS :=
  (sSeq (sSets [1, 2] (sCons (sOp oAdd (sC (.int 3)) (sCall m__law_roll (sCons (sC (.int 6)) sNil))) (sCons (sOp oAdd (sC (.int 1)) (sCall m__law_roll (sCons (sC (.int 4)) sNil))) sNil)))
    (sSeq (sSet 3 (sCall m__law_some (sCons (sLst (sCons (sCall m__law_signs (sCons (sOp oAdd (sC (.int 1)) (sCall m__law_roll (sCons (sC (.int 12)) sNil))) sNil)) (sCons (sCall m__law_signs (sCons (sOp oAdd (sC (.int 1)) (sCall m__law_roll (sCons (sC (.int 4)) sNil))) sNil)) sNil))) sNil)))
    (sSeq (sSet 4 (sCall m__law_went (sCons (sVar 3) (sCons (sVar 1) (sCons (sC (.int 24)) sNil)))))
    (sSeq (sSet 5 (sComp [14] (sRange2 (sC (.int 1)) (sC (.int 25))) (tgN 14) (sB (sOp oEq (sCall m__law_loose (sCons (sSl (sVar 4) sNoP (sPart (sVar 14))) sNil)) (sLst sNil))) (sVar 14)))
    (sSeq (sSet 6 (sTup (sCons (sCall m_rounds_to_hold (sCons (sVar 3) (sCons (sVar 1) sNil))) (sCons (sCall m_unlike_rounds (sCons (sVar 3) (sCons (sVar 1) sNil))) (sCons (sCall m_loose_behind (sCons (sVar 3) (sCons (sVar 1) (sCons (sVar 2) sNil)))) sNil)))))
    (sSeq (sIte (sNot (sB (sCall (m__law_same 8) (sCons (sVar 6) (sCons (sTup (sCons (sIf (sB (sOp oNe (sVar 5) (sLst sNil))) (sOp oIx (sVar 5) (sC (.int 0))) (sC .none)) (sCons (sU bLenSetA (sVar 4)) (sCons (sU bTupleA (sCall m__law_loose (sCons (sSl (sVar 4) sNoP (sPart (sVar 2))) sNil))) sNil)))) sNil))))) (sRet (sC (.bool false))) sSkip)
    (sSeq (sSet 7 (sOp oAdd (sC (.int 1)) (sCall m__law_roll (sCons (sC (.int 6)) sNil))))
    (sSeq (sSet 8 (sComp [15] (sItems (sCall m__law_words (sCons (sVar 7) sNil))) (tgN 15) sYes (sU bLen (sCall m__law_loose (sCons (sCall m__law_went (sCons (sVar 15) (sCons (sVar 1) (sCons (sVar 2) sNil)))) sNil)))))
    (sSeq (sSet 9 (sU bTupleA (sComp [14] (sRange1 (sOp oAdd (sVar 1) (sC (.int 1)))) (tgN 14) sYes (sOp mLCount (sVar 8) (sVar 14)))))
    (sSeq (sSet 10 (sU bLen (sComp [15] (sItems (sCall m__law_words (sCons (sVar 7) sNil))) (tgN 15) (sB (sOp oNe (sCall m__law_loose (sCons (sCall m__law_went (sCons (sVar 15) (sCons (sVar 1) (sCons (sC (.int 12)) sNil)))) sNil)) (sLst sNil))) (sVar 15))))
    (sSeq (sSet 6 (sTup (sCons (sCall m_holding_many (sCons (sVar 1) (sCons (sVar 2) (sCons (sVar 7) sNil)))) (sCons (sCall m_loose_counts (sCons (sVar 1) (sCons (sVar 2) (sCons (sVar 7) sNil)))) (sCons (sCall m_never_holding (sCons (sVar 1) (sCons (sVar 7) sNil))) sNil)))))
    (sSeq (sIte (sNot (sB (sCall (m__law_same 8) (sCons (sVar 6) (sCons (sTup (sCons (sOp oIx (sVar 9) (sC (.int 0))) (sCons (sVar 9) (sCons (sVar 10) sNil)))) sNil))))) (sRet (sC (.bool false))) sSkip)
    (sSeq (sSet 11 (sC .none))
    (sSeq (sFor (sRange2 (sC (.int 1)) (sC (.int 9))) (tgN 12) b__law_right_1)
    (sRet (sCall (m__law_same 8) (sCons (sCall m_first_holding (sCons (sVar 1) (sCons (sVar 2) sNil))) (sCons (sVar 11) sNil))))))))))))))))))
def m__law_right : List D → Cup → Option (D × Cup) := runD true 15 b__law_right
abbrev b_law_1 : SS :=
  (sIte (sNot (sB (sCall m__law_right sNil))) (sRet (sC (.bool false))) sSkip)
def b_law : SS :=
  (sSeq (sFor (sRange1 (sC (.int 2))) (tgN 2) b_law_1)
    (sSeq (sSets [3, 4] (sCons (sOp oAdd (sC (.int 3)) (sCall m__law_roll (sCons (sC (.int 22)) sNil))) (sCons (sOp oAdd (sC (.int 2)) (sCall m__law_roll (sCons (sC (.int 39)) sNil))) sNil)))
    (sSeq (sSet 5 (sOp oEq (sOp oMod (sVar 3) (sC (.int 2))) (sC (.int 1))))
    (sSeq (sSet 6 (sTup (sCons (sCall m_rounds_to_hold (sCons (sC (ps [111, 105])) (sCons (sVar 3) sNil))) (sCons (sCall m_unlike_rounds (sCons (sC (ps [111, 105])) (sCons (sVar 3) sNil))) (sCons (sCall m_first_holding (sCons (sVar 3) (sCons (sC (.int 1)) sNil))) (sCons (sCall m_holding_many (sCons (sVar 3) (sCons (sVar 4) (sCons (sC (.int 2)) sNil)))) sNil))))))
    (sSeq (sIte (sNot (sB (sCall (m__law_same 8) (sCons (sVar 6) (sCons (sTup (sCons (sIf (sB (sVar 5)) (sC (.int 2)) (sC .none)) (sCons (sIf (sB (sVar 5)) (sC (.int 2)) (sC (.int 1))) (sCons (sC .none) (sCons (sIf (sB (sVar 5)) (sC (.int 2)) (sC (.int 0))) sNil))))) sNil))))) (sRet (sC (.bool false))) sSkip)
    (sRet (sOrV (sNotV (sVar 5)) (sCall (m__law_same 8) (sCons (sTup (sCons (sCall m_first_holding (sCons (sVar 3) (sCons (sVar 4) sNil))) (sCons (sCall m_loose_behind (sCons (sC (ps [111, 105])) (sCons (sVar 3) (sCons (sC (.int 1)) sNil)))) sNil))) (sCons (sTup (sCons (sC (ps [105, 111])) (sCons (sU bTupleA (sComp [7] (sRange1 (sVar 3)) (tgN 7) sYes (sVar 7))) sNil))) sNil))))))))))
end Wk
set_option Elab.async false
set_option linter.all false
set_option maxRecDepth 3000
set_option maxHeartbeats 1000000
namespace Wk
open PySem PySem.Spec PyProof.Rows L2
/-! MX: more evaluation lemmas, of no law's own -/
abbrev nD (k : Nat) : D := .int (k : Nat)
theorem rangeD_nat (n : Nat) : rangeD 0 n = (List.range n).map nD := by
  unfold rangeD
  exact List.map_congr_left fun i _ => by rw [Int.zero_add]
theorem rangeD_from (a n : Nat) : rangeD (a : Int) n = (List.range n).map fun i => nD (a + i) := by
  unfold rangeD
  exact List.map_congr_left fun i _ => by show PyData.int _ = PyData.int _; rw [Int.natCast_add]
theorem cut_take {α : Type} (l : List α) (j : Nat) : Wk.cut l none (some (j : Int)) = l.take j := by
  unfold Wk.cut
  simp only [HT.sIx]
  repeat' split
  all_goals first
    | omega
    | skip
  all_goals simp
  all_goals first
    | rfl
    | (rw [Nat.min_eq_left (by omega)])
    | (rw [List.take_of_length_le (by omega), List.take_of_length_le (by omega)])
theorem cut_drop {α : Type} (l : List α) (j : Nat) : Wk.cut l (some (j : Int)) none = l.drop j := by
  unfold Wk.cut
  simp only [HT.sIx]
  repeat' split
  all_goals first
    | omega
    | skip
  by_cases h : j ≤ l.length
  · rw [show min ((j : Int).toNat) l.length = j by omega, List.take_of_length_le (by rw [List.length_drop]; omega)]
  · rw [show min ((j : Int).toNat) l.length = l.length by omega, List.drop_eq_nil_of_le (as := l) (i := j) (by omega), List.drop_eq_nil_of_le (Nat.le_refl _), List.take_nil]
theorem filter_empty {α : Type} (p : α → Bool) (l : List α) : (l.filter fun x => !p x).isEmpty = l.all p := by
  induction l with
  | nil => rfl
  | cons x r ih =>
    cases h : p x with
    | true => rw [List.filter_cons_of_neg (by simp [h]), List.all_cons, h, ih]; rfl
    | false => rw [List.filter_cons_of_pos (by simp [h]), List.all_cons, h]; rfl
theorem getD_in {α : Type} {w : List α} {j : Nat} {x : α} (h : j < w.length) : w[j]? = some (w.getD j x) := by
  rw [List.getD_eq_getElem?_getD, List.getElem?_eq_getElem h]
  rfl
theorem getD_mem {α : Type} {w : List α} {j : Nat} {x : α} (h : j < w.length) : w.getD j x ∈ w := List.mem_of_getElem? (getD_in h)
theorem atI_mp {α β : Type} {f : α → β} {l : List α} {j : Nat} {x : α} (h : j < l.length) : atI (l.map f) (j : Int) = some (f (l.getD j x)) := by
  rw [atI_lt (by omega) (by rw [List.length_map]; omega), Int.toNat_natCast, List.getElem?_map, getD_in h]
  rfl
theorem atI_mpS {l : List Nat} {j : Nat} {x : Nat} (h : j < l.length) : atI l (j : Int) = some (l.getD j x) := by
  rw [atI_lt (by omega) (by omega), Int.toNat_natCast, getD_in h]
theorem range_getD {n j : Nat} {β : Type} {f : Nat → β} (h : j < n) : atI ((List.range n).map f) (j : Int) = some (f j) := by
  rw [atI_lt (by omega) (by rw [List.length_map, List.length_range]; omega), Int.toNat_natCast, List.getElem?_map, List.getElem?_range h]
  rfl
theorem enumD_mapA {α : Type} (f : α → D) (l : List α) (x : α) : enumD 0 (l.map f) = (List.range l.length).map fun i => .tuple [nD i, f (l.getD i x)] := by
  refine List.ext_getElem? fun i => ?_
  rw [enumD_get, List.getElem?_map, List.getElem?_map]
  by_cases h : i < l.length
  · rw [getD_in (x := x) h, List.getElem?_range h]
    simp only [Option.map_some]
    rw [Nat.zero_add]
  · rw [List.getElem?_eq_none (l := l) (by omega), List.getElem?_eq_none (l := List.range _) (by rw [List.length_range]; omega)]
    rfl
theorem compD2_mapA {α : Type} {tg : STg} {cd : STst} {src1 : SA} {vs1 : List Nat} {tg1 : STg} {cd1 : STst} {f : SE} {h : α → D} {os : α → List D} {Γ : Ev} {c : Cup} : ∀ {l : List α}, (∀ x ∈ l, ∃ Γ' ds, tg (h x) Γ = some Γ' ∧ cd Γ' c = some (true, c) ∧ src1 Γ' c = some (ds, c) ∧ compD tg1 cd1 f ds (wipeE Γ' vs1) c = some (os x, c)) → compD2 tg cd src1 vs1 tg1 cd1 f (l.map h) Γ c = some ((l.map os).flatten, c)
  | [], _ => rfl
  | x :: r, k => by
    obtain ⟨Γ', ds, h1, h2, h3, h4⟩ := k x List.mem_cons_self
    show (tg (h x) Γ).bind _ = _
    rw [h1]
    show (cd Γ' c).bind _ = _
    rw [h2]
    show (src1 Γ' c).bind _ = _
    rw [h3]
    show (compD tg1 cd1 f ds (wipeE Γ' vs1) c).bind _ = _
    rw [h4]
    show (compD2 tg cd src1 vs1 tg1 cd1 f (r.map h) Γ c).map _ = _
    rw [compD2_mapA fun e he => k e (List.mem_cons_of_mem _ he)]
    rfl
theorem any_nat {k : Nat} : ∀ l : List Nat, ((l.map nD).any fun y => PyData.eqv y (nD k)) = decide (k ∈ l)
  | [] => rfl
  | j :: r => by
    rw [List.map_cons, List.any_cons, any_nat r, eqv_i, Bool.eq_iff_iff]
    simp only [Bool.or_eq_true, decide_eq_true_eq, List.mem_cons, Int.natCast_inj]
    exact ⟨fun h => h.imp Eq.symm id, fun h => h.imp Eq.symm id⟩
theorem oIn_n {k : Nat} {l : List Nat} : oIn (nD k) (.list (l.map nD)) = some (.bool (decide (k ∈ l))) := by
  simp only [oIn, isIn]
  rw [if_pos (Nat.le_trans (Nat.min_le_right _ _) (by simp [PyData.depth])), any_nat]
  rfl
theorem oNotIn_n {k : Nat} {l : List Nat} : oNotIn (nD k) (.list (l.map nD)) = some (.bool (!decide (k ∈ l))) := by
  simp only [oNotIn, isIn]
  rw [if_pos (Nat.le_trans (Nat.min_le_right _ _) (by simp [PyData.depth])), any_nat]
  rfl
theorem forD_step {tg : STg} {b : SS} {d : D} {r : List D} {Γ Γ' Γ2 : Ev} {c c2 : Cup} {o : Option Out} (h1 : tg d Γ = some Γ') (h2 : b Γ' c = some (.nx Γ2 c2)) (h3 : forD tg b r Γ2 c2 = o) : forD tg b (d :: r) Γ c = o := by
  show (tg d Γ).bind _ = _
  rw [h1]
  show (b Γ' c).bind _ = _
  rw [h2]
  exact h3
theorem filter_cons_if {α : Type} (p : α → Bool) (x : α) (r : List α) : (x :: r).filter p = (if p x then [x] else []) ++ r.filter p := by
  rw [List.filter_cons]
  split <;> rfl
theorem map_isEmpty {α β : Type} (f : α → β) (l : List α) : (l.map f).isEmpty = l.isEmpty := List.isEmpty_map
theorem flat_nat {α : Type} (g : α → List Nat) : ∀ l : List α, (l.map fun x => (g x).map nD).flatten = ((l.map g).flatten).map nD
  | [] => rfl
  | x :: r => by rw [List.map_cons, List.flatten_cons, flat_nat g r, List.map_cons, List.flatten_cons, List.map_append]
/-- a loop over a list by its places -/
theorem forD_idx {tg : STg} {b : SS} {α : Type} {f : α → D} {l : List α} (x0 : α) (I : Nat → Ev → Cup → Prop) (h : ∀ i Γ c, i < l.length → I i Γ c → ∃ Γ' Γ2 c2, tg (f (l.getD i x0)) Γ = some Γ' ∧ (b Γ' c = some (.nx Γ2 c2) ∨ b Γ' c = some (.ct Γ2 c2)) ∧ I (i + 1) Γ2 c2) {Γ : Ev} {c : Cup} (h0 : I 0 Γ c) :
    ∃ Γ2 c2, forD tg b (l.map f) Γ c = some (.nx Γ2 c2) ∧ I l.length Γ2 c2 := by
  obtain ⟨Γ2, c2, h1, h2⟩ := forD_inv (tg := tg) (b := b) (fun r Γ c => ∃ i, i ≤ l.length ∧ r = (l.map f).drop i ∧ I i Γ c) (ds := l.map f) (fun d r Γ c _ ⟨i, hi, hr, hI⟩ => by
    have hlt : i < l.length := by
      rcases Nat.lt_or_ge i l.length with h | h
      · exact h
      · rw [List.drop_eq_nil_of_le (by rw [List.length_map]; exact h)] at hr
        cases hr
    have hg : (l.map f)[i]? = some (f (l.getD i x0)) := by
      rw [List.getElem?_map, getD_in (x := x0) hlt]
      rfl
    rw [drop_get hg] at hr
    cases hr
    obtain ⟨Γ', Γ2, c2, h1, h2, h3⟩ := h i Γ c hlt hI
    exact ⟨Γ', Γ2, c2, h1, h2, i + 1, hlt, rfl, h3⟩) Γ c ⟨0, Nat.zero_le _, rfl, h0⟩
  obtain ⟨i, hi, hr, hI⟩ := h2
  have : l.length ≤ i := by
    have := congrArg List.length hr
    rw [List.length_drop, List.length_map] at this
    simp at this
    omega
  have e : i = l.length := by omega
  subst e
  exact ⟨Γ2, c2, h1, hI⟩
theorem range_get {n i : Nat} (h : i < n) : (List.range n).getD i 0 = i := by
  rw [List.getD_eq_getElem?_getD, List.getElem?_range h]
  rfl
theorem as_range {α : Type} (l : List α) (x : α) : l = (List.range l.length).map fun i => l.getD i x := by
  refine List.ext_getElem? fun i => ?_
  rw [List.getElem?_map]
  by_cases h : i < l.length
  · rw [List.getElem?_range h, getD_in (x := x) h]
    rfl
  · rw [List.getElem?_eq_none (by omega), List.getElem?_eq_none (by rw [List.length_range]; omega)]
    rfl
theorem map_as_range {α β : Type} (f : α → β) (l : List α) (x : α) : l.map f = (List.range l.length).map fun i => f (l.getD i x) := by
  conv => lhs; rw [as_range l x]
  rw [List.map_map]
  rfl
theorem zipD_map {α : Type} (f g : α → D) : ∀ l : List α, zipD (l.map f) (l.map g) = l.map fun i => .tuple [f i, g i]
  | [] => rfl
  | x :: r => by
    show _ :: zipD (r.map f) (r.map g) = _
    rw [zipD_map f g r]
    rfl
theorem enumD_range {n : Nat} (f : Nat → D) : enumD 0 ((List.range n).map f) = (List.range n).map fun i => .tuple [nD i, f i] := by
  rw [enumD_mapA f (List.range n) 0, List.length_range]
  exact List.map_congr_left fun i hi => by rw [range_get (List.mem_range.mp hi)]
theorem range_tail (m : Nat) {β : Type} (f : Nat → β) : ((List.range (m + 1)).map f).drop 1 = (List.range m).map fun i => f (i + 1) := by
  rw [List.range_succ_eq_map, List.map_cons, List.map_map]
  rfl
theorem getLast_at {α : Type} {l : List α} {x : α} (h : 1 ≤ l.length) : atI l (-1) = some (l.getD (l.length - 1) x) := by
  rw [atI_neg (by omega) (by omega), show (-1 + (l.length : Int)).toNat = l.length - 1 by omega, getD_in (x := x) (by omega)]
theorem range_last {n : Nat} {β : Type} {f : Nat → β} : atI ((List.range (n + 1)).map f) (-1) = some (f n) := by
  rw [atI_neg (by omega) (by rw [List.length_map, List.length_range]; omega), List.length_map, List.length_range, show (-1 + ((n + 1 : Nat) : Int)).toNat = n by omega, List.getElem?_map, List.getElem?_range (by omega)]
  rfl
theorem oIsNot_b {a b : Bool} : oIsNot (.bool a) (.bool b) = some (.bool (!decide (a = b))) := rfl
theorem rep_flat {α : Type} (x : α) : ∀ n : Nat, (List.replicate n [x]).flatten = List.replicate n x
  | 0 => rfl
  | n + 1 => by rw [List.replicate_succ, List.flatten_cons, rep_flat x n, List.replicate_succ]; rfl
theorem map_rep {α β : Type} (f : α → β) (x : α) (n : Nat) : (List.replicate n x).map f = List.replicate n (f x) := List.map_replicate
/-! ### sorted numbers and pairs -/
theorem mergeSort_nat {l m : List Nat} (hs : m.Pairwise (· < ·)) (hp : l.Perm m) : l.mergeSort (fun a b => decide (a ≤ b)) = m := by
  refine List.Perm.eq_of_pairwise (le := (· ≤ ·)) (fun a b _ _ h1 h2 => Nat.le_antisymm h1 h2) ?_ (hs.imp fun h => Nat.le_of_lt h) ((List.mergeSort_perm _ _).trans hp)
  have h := List.pairwise_mergeSort (le := fun a b : Nat => decide (a ≤ b)) (fun a b c h1 h2 => by simp at h1 h2 ⊢; omega) (fun a b => by simp; omega) l
  exact h.imp fun h => by simpa using h
theorem bSorted_nat {l m : List Nat} (hl : l.length ≤ 16777216) (hs : m.Pairwise (· < ·)) (hp : l.Perm m) : bSorted (.list (l.map nD)) = some (.list (m.map nD)) := by
  have e : ∀ l : List Nat, l.map nD = (l.map fun i : Nat => (i : Int)).map .int := fun l => by rw [List.map_map]; rfl
  rw [e, bSorted_l (by rw [List.length_map]; exact hl), e]
  congr 3
  refine List.Perm.eq_of_pairwise (le := (· ≤ ·)) (fun a b _ _ h1 h2 => Int.le_antisymm h1 h2) (srt_sorted _) ?_ ((srt_perm _).trans (hp.map _))
  exact List.Pairwise.map _ (fun a b h => Int.ofNat_le.mpr (Nat.le_of_lt h)) hs
theorem dataLe_pair (a b : Nat) (g : Nat → Nat) : PySem.W.dataLe false id (PyData.tuple [nD a, nD (g a)]) (PyData.tuple [nD b, nD (g b)]) = decide (a ≤ b) := by
  show (!(PyProof.Rows.lexLt PyProof.Rows.itemOrd [.inl 1, .inl (b : Int), .inl 1, .inl (g b : Int), .inl 0] [.inl 1, .inl (a : Int), .inl 1, .inl (g a : Int), .inl 0])) = _
  simp only [PyProof.Rows.lexLt, PyProof.Rows.itemLt]
  by_cases h : a ≤ b
  · by_cases h2 : a = b
    · subst h2
      simp
    · have h3 : (a : Int) < b := by omega
      have h4 : ¬ (b : Int) < a := by omega
      simp [h, h3, h4]
  · have h3 : (b : Int) < a := by omega
    simp [h, h3]
theorem bSorted_pair {l m : List Nat} {g : Nat → Nat} (hl : l.length ≤ 16777216) (hs : m.Pairwise (· < ·)) (hp : l.Perm m) : bSorted (.list (l.map fun j => .tuple [nD j, nD (g j)])) = some (.list (m.map fun j => .tuple [nD j, nD (g j)])) := by
  have ho : okSort (l.map fun j => .tuple [nD j, nD (g j)]) = true := by
    unfold okSort
    simp only [Bool.and_eq_true, Bool.or_eq_true, List.all_eq_true, decide_eq_true_eq]
    refine ⟨⟨⟨fun d hd d' hd' => ?_, .inl fun d hd => ?_⟩, by rw [List.length_map]; exact hl⟩, fun d hd => ?_⟩
    · obtain ⟨i, _, rfl⟩ := List.mem_map.mp hd
      obtain ⟨j, _, rfl⟩ := List.mem_map.mp hd'
      rfl
    · obtain ⟨i, _, rfl⟩ := List.mem_map.mp hd
      rfl
    · obtain ⟨i, _, rfl⟩ := List.mem_map.mp hd
      simp [PyData.depth, PyData.depthAll]
  simp only [bSorted]
  rw [if_pos ho]
  congr 2
  unfold sortD
  rw [← List.map_mergeSort (r := fun a b => decide (a ≤ b)) (s := PySem.W.dataLe false id) (f := fun j => .tuple [nD j, nD (g j)]) (l := l) fun a _ b _ => (dataLe_pair a b g).symm, mergeSort_nat hs hp]
theorem filter_sorted (n : Nat) (P : Nat → Bool) : ((List.range n).filter P).Pairwise (· < ·) := List.pairwise_lt_range.filter _
theorem perm_filter_map {n : Nat} {P P' : Nat → Bool} {f g : Nat → Nat} (h1 : ∀ j < n, f j < n ∧ g (f j) = j ∧ P' (f j) = P j) (h2 : ∀ i < n, g i < n ∧ f (g i) = i) : (((List.range n).filter P).map f).Perm ((List.range n).filter P') := by
  refine (List.perm_ext_iff_of_nodup ?_ ?_).mpr fun a => ?_
  · unfold List.Nodup
    rw [List.pairwise_map]
    refine (filter_sorted n P).imp_of_mem fun ha hb hlt e => ?_
    have a1 := List.mem_range.mp (List.mem_filter.mp ha).1
    have b1 := List.mem_range.mp (List.mem_filter.mp hb).1
    have := (h1 _ a1).2.1
    have := (h1 _ b1).2.1
    rw [e] at *
    omega
  · exact (filter_sorted n P').imp fun h => by omega
  · rw [List.mem_map]
    constructor
    · rintro ⟨j, hj, rfl⟩
      obtain ⟨h3, h4⟩ := List.mem_filter.mp hj
      obtain ⟨h5, h6, h7⟩ := h1 j (List.mem_range.mp h3)
      exact List.mem_filter.mpr ⟨List.mem_range.mpr h5, by rw [h7]; exact h4⟩
    · intro ha
      obtain ⟨h3, h4⟩ := List.mem_filter.mp ha
      obtain ⟨h5, h6⟩ := h2 a (List.mem_range.mp h3)
      refine ⟨g a, List.mem_filter.mpr ⟨List.mem_range.mpr h5, ?_⟩, h6⟩
      rw [← (h1 (g a) h5).2.2, h6]
      exact h4
end Wk
set_option Elab.async false
set_option linter.all false
set_option maxRecDepth 3000
set_option maxHeartbeats 1000000
namespace Wk
open PySem PySem.Spec PyProof.Rows L2
open PySem.W (dataLt minD maxD keyToks keyToksAll alike)
/-! MY: the least and the order of alike data -/
theorem lt_total {a b : D} (h1 : dataLt a b = false) (h2 : dataLt b a = false) : keyToks a = keyToks b := lex_total (O := itemOrd) _ _ h1 h2
theorem lt_neg {a b c : D} (h : dataLt a c = true) : dataLt a b = true ∨ dataLt b c = true := lex_negTrans (O := itemOrd) _ _ _ h
theorem lt_trans {a b c : D} (h : dataLt a b = true) (h' : dataLt b c = true) : dataLt a c = true := lex_trans (O := itemOrd) _ _ _ h h'
theorem lt_self (a : D) : dataLt a a = false := lex_irrefl (O := itemOrd) _
theorem minD_spec : ∀ (x : D) (r : List D), minD x r ∈ x :: r ∧ ∀ y ∈ x :: r, dataLt y (minD x r) = false
  | x, [] => ⟨List.mem_cons_self, fun y hy => by rw [List.mem_singleton.mp hy]; exact lt_self _⟩
  | x, k :: r => by
    have e : minD x (k :: r) = minD (if dataLt k x then k else x) r := rfl
    rw [e]
    cases h : dataLt k x with
    | true =>
      obtain ⟨h1, h2⟩ := minD_spec k r
      refine ⟨?_, fun y hy => ?_⟩
      · exact List.mem_cons_of_mem _ h1
      · show dataLt y (minD k r) = false
        rcases List.mem_cons.mp hy with rfl | hy
        · cases h3 : dataLt y (minD k r) with
          | false => rfl
          | true =>
            rcases lt_neg (b := k) h3 with h4 | h4
            · have := lt_trans h h4
              rw [lt_self] at this
              cases this
            · rw [h2 k List.mem_cons_self] at h4
              cases h4
        · exact h2 y hy
    | false =>
      obtain ⟨h1, h2⟩ := minD_spec x r
      refine ⟨?_, fun y hy => ?_⟩
      · rcases List.mem_cons.mp h1 with h1 | h1
        · show minD x r ∈ _
          rw [h1]
          exact List.mem_cons_self
        · exact List.mem_cons_of_mem _ (List.mem_cons_of_mem _ h1)
      · rcases List.mem_cons.mp hy with rfl | hy
        · exact h2 _ List.mem_cons_self
        · rcases List.mem_cons.mp hy with rfl | hy
          · show dataLt y (minD x r) = false
            cases h3 : dataLt y (minD x r) with
            | false => rfl
            | true =>
              rcases lt_neg (b := x) h3 with h4 | h4
              · rw [h] at h4
                cases h4
              · rw [h2 x List.mem_cons_self] at h4
                cases h4
          · exact h2 y (List.mem_cons_of_mem _ hy)
theorem dataLe_not (a b : D) : PySem.W.dataLe false id a b = !dataLt b a := rfl
theorem sortD_pw (ds : List D) : (sortD ds).Pairwise fun a b => dataLt b a = false := by
  have h := List.pairwise_mergeSort (le := PySem.W.dataLe false (id : D → D)) (fun a b c => (PySem.W.sortLe_total _ _ _).trans a b c) (fun a b => by
    have h : PySem.W.dataLe false id a b = true ∨ PySem.W.dataLe false id b a = true := (PySem.W.sortLe_total (listOrd itemOrd) false fun b : D => keyToks (id b)).total a b
    rcases h with h | h <;> rw [h] <;> simp) ds
  exact h.imp fun h => by
    rw [dataLe_not] at h
    simpa using h
theorem sortD_perm (ds : List D) : (sortD ds).Perm ds := List.mergeSort_perm _ _
theorem sort_head {ds : List D} {m : D} (h : (sortD ds)[0]? = some m) : m ∈ ds ∧ ∀ y ∈ ds, dataLt y m = false := by
  have hp := sortD_perm ds
  have hw := sortD_pw ds
  cases e : sortD ds with
  | nil => rw [e] at h; cases h
  | cons x t =>
    rw [e] at h hp hw
    cases h
    refine ⟨hp.mem_iff.mp List.mem_cons_self, fun y hy => ?_⟩
    rcases List.mem_cons.mp (hp.mem_iff.mpr hy) with rfl | hy
    · exact lt_self _
    · exact (List.pairwise_cons.mp hw).1 y hy
theorem minimal_unique {ds : List D} {m m' : D} (inj : ∀ a ∈ ds, ∀ b ∈ ds, keyToks a = keyToks b → a = b) (h : m ∈ ds ∧ ∀ y ∈ ds, dataLt y m = false) (h' : m' ∈ ds ∧ ∀ y ∈ ds, dataLt y m' = false) : m = m' :=
  inj m h.1 m' h'.1 (lt_total (h'.2 m h.1) (h.2 m' h'.1))
theorem bMin_gl {x : D} {r : List D} (h : intsOf (x :: r) = none) (ho : okAl (x :: r) = true) : bMin (.list (x :: r)) = some (minD x r) := by
  show minG (x :: r) = _
  unfold minG
  rw [h]
  simp only [ho, if_true]
theorem bMin_gt {x : D} {r : List D} (h : intsOf (x :: r) = none) (ho : okAl (x :: r) = true) : bMin (.tuple (x :: r)) = some (minD x r) := by
  show minG (x :: r) = _
  unfold minG
  rw [h]
  simp only [ho, if_true]
/-! ### texts -/
theorem toks_ps {l m : List Nat} (h : keyToks (ps l) = keyToks (ps m)) : l = m := by
  simp only [keyToks] at h
  have := List.cons.inj h
  exact Sum.inr.inj this.1
theorem okAl_strs (l : List (List Nat)) : okAl (l.map ps) = true := by
  unfold okAl
  simp only [Bool.and_eq_true, List.all_eq_true, decide_eq_true_eq]
  refine ⟨⟨fun d hd d' hd' => ?_, fun d hd => ?_⟩, ?_⟩
  · obtain ⟨w, _, rfl⟩ := List.mem_map.mp hd
    obtain ⟨w', _, rfl⟩ := List.mem_map.mp hd'
    rfl
  · obtain ⟨w, _, rfl⟩ := List.mem_map.mp hd
    rfl
  · have : PyData.depthAll (l.map ps) = 0 := by
      induction l with
      | nil => rfl
      | cons x r ih =>
        show max 0 (PyData.depthAll (r.map ps)) = 0
        rw [ih]
        rfl
    omega
theorem okSort_strs {l : List (List Nat)} (h : l.length ≤ 16777216) : okSort (l.map ps) = true := by
  unfold okSort
  simp only [Bool.and_eq_true, Bool.or_eq_true, List.all_eq_true, decide_eq_true_eq]
  refine ⟨⟨⟨fun d hd d' hd' => ?_, .inr fun d hd => ?_⟩, by rw [List.length_map]; exact h⟩, fun d hd => ?_⟩
  · obtain ⟨w, _, rfl⟩ := List.mem_map.mp hd
    obtain ⟨w', _, rfl⟩ := List.mem_map.mp hd'
    rfl
  · obtain ⟨w, _, rfl⟩ := List.mem_map.mp hd
    rfl
  · obtain ⟨w, _, rfl⟩ := List.mem_map.mp hd
    simp [PyData.depth]
theorem inj_strs (l : List (List Nat)) : ∀ a ∈ l.map ps, ∀ b ∈ l.map ps, keyToks a = keyToks b → a = b := fun a ha b hb e => by
  obtain ⟨w, _, rfl⟩ := List.mem_map.mp ha
  obtain ⟨w', _, rfl⟩ := List.mem_map.mp hb
  rw [toks_ps e]
/-- the least text of some: by min, or as the first of the sorted ones -/
theorem least_strs {l : List (List Nat)} (hne : l ≠ []) (hl : l.length ≤ 16777216) : ∃ m ∈ l, bMin (.list (l.map ps)) = some (ps m) ∧ ∃ S, bSorted (.list (l.map ps)) = some (.list S) ∧ atI S 0 = some (ps m) ∧ S.length = l.length := by
  cases l with
  | nil => exact absurd rfl hne
  | cons w r =>
    have h1 := bMin_gl (x := ps w) (r := r.map ps) rfl (okAl_strs (w :: r))
    have h2 := minD_spec (ps w) (r.map ps)
    obtain ⟨m, hm, e⟩ := List.mem_map.mp (show minD (ps w) (r.map ps) ∈ (w :: r).map ps from h2.1)
    refine ⟨m, hm, ?_, sortD ((w :: r).map ps), ?_, ?_, ?_⟩
    · rw [e]; exact h1
    · simp only [bSorted]
      rw [if_pos (okSort_strs hl)]
    · have hlen : (sortD ((w :: r).map ps)).length = (w :: r).length := by rw [(sortD_perm _).length_eq, List.length_map]
      have hl0 : 0 < (sortD ((w :: r).map ps)).length := by rw [hlen, List.length_cons]; omega
      rw [atI_lt (by omega) (by omega)]
      show (sortD ((w :: r).map ps))[0]? = _
      have h3 := sort_head (List.getElem?_eq_getElem hl0)
      rw [List.getElem?_eq_getElem hl0, e]
      exact congrArg some (minimal_unique (inj_strs (w :: r)) h3 h2)
    · rw [(sortD_perm _).length_eq, List.length_map]
end Wk
set_option Elab.async false
set_option linter.all false
set_option maxRecDepth 3000
set_option maxHeartbeats 1000000
namespace Wk
open PySem PySem.Spec PyProof.Rows L2
open PySem.W (dataLt minD maxD keyToks keyToksAll alike alikeAll)
/-! MU: tuples of whole numbers, their order -/
abbrev lD (l : List Nat) : D := .tuple (l.map nD)
theorem add_lot {l : List Nat} {k : Nat} (h : l.length ≤ 1000) : oAdd (lD l) (.tuple [nD k]) = some (lD (l ++ [k])) := by
  rw [oAdd_t (by rw [List.length_map, List.length_singleton]; omega), ← List.map_singleton (f := nD), ← List.map_append]
theorem alikeAll_nat : ∀ l m : List Nat, alikeAll (l.map nD) (m.map nD) = true
  | [], _ => by cases ‹List Nat› <;> simp [alikeAll]
  | x :: r, [] => by simp [alikeAll]
  | x :: r, y :: t => by
    rw [List.map_cons, List.map_cons]
    simp only [alikeAll, alike, alikeAll_nat r t, Bool.and_self]
theorem alike_lD (l m : List Nat) : alike (lD l) (lD m) = true := by
  show alike (.tuple _) (.tuple _) = true
  simp only [alike, alikeAll_nat]
theorem depthAll_nat (l : List Nat) : PyData.depthAll (l.map nD) = 0 := by
  induction l with
  | nil => rfl
  | cons x r ih =>
    show max 0 (PyData.depthAll (r.map nD)) = 0
    rw [ih]
    rfl
theorem depth_lD (l : List Nat) : PyData.depth (lD l) ≤ 2 := by
  show PyData.depthAll (l.map nD) + 1 ≤ 2
  rw [depthAll_nat]
  omega
theorem toksAll_nat : ∀ {l m : List Nat}, keyToksAll (l.map nD) = keyToksAll (m.map nD) → l = m
  | [], [], _ => rfl
  | [], y :: t, h => by simp [keyToksAll] at h
  | x :: r, [], h => by simp [keyToksAll] at h
  | x :: r, y :: t, h => by
    rw [List.map_cons, List.map_cons] at h
    simp only [keyToksAll, keyToks, List.cons_append, List.nil_append, List.cons.injEq, Sum.inl.injEq, true_and] at h
    rw [toksAll_nat h.2, show x = y by omega]
theorem lD_inj {l m : List Nat} (h : lD l = lD m) : l = m := by
  have h1 : keyToks (lD l) = keyToks (lD m) := by rw [h]
  exact toksAll_nat (by simpa only [keyToks] using h1)
theorem okSort_tups {ls : List (List Nat)} (hne : ∀ l ∈ ls, l ≠ []) (h : ls.length ≤ 16777216) : okSort (ls.map lD) = true := by
  unfold okSort
  simp only [Bool.and_eq_true, Bool.or_eq_true, List.all_eq_true, decide_eq_true_eq]
  refine ⟨⟨⟨fun d hd d' hd' => ?_, .inl fun d hd => ?_⟩, by rw [List.length_map]; exact h⟩, fun d hd => ?_⟩
  · obtain ⟨w, _, rfl⟩ := List.mem_map.mp hd
    obtain ⟨w', _, rfl⟩ := List.mem_map.mp hd'
    exact alike_lD w w'
  · obtain ⟨w, hw, rfl⟩ := List.mem_map.mp hd
    cases w with
    | nil => exact absurd rfl (hne _ hw)
    | cons x r => rfl
  · obtain ⟨w, _, rfl⟩ := List.mem_map.mp hd
    have := depth_lD w
    omega
theorem depthAll_tups (ls : List (List Nat)) : PyData.depthAll (ls.map lD) ≤ 2 := by
  induction ls with
  | nil => exact Nat.zero_le _
  | cons x r ih =>
    show max (PyData.depth (lD x)) (PyData.depthAll (r.map lD)) ≤ 2
    have := depth_lD x
    omega
theorem okAl_tups (ls : List (List Nat)) : okAl (ls.map lD) = true := by
  unfold okAl
  simp only [Bool.and_eq_true, List.all_eq_true, decide_eq_true_eq]
  refine ⟨⟨fun d hd d' hd' => ?_, fun d hd => ?_⟩, ?_⟩
  · obtain ⟨w, _, rfl⟩ := List.mem_map.mp hd
    obtain ⟨w', _, rfl⟩ := List.mem_map.mp hd'
    exact alike_lD w w'
  · obtain ⟨w, _, rfl⟩ := List.mem_map.mp hd
    rfl
  · have := depthAll_tups ls
    omega
theorem inj_tups (l : List (List Nat)) : ∀ a ∈ l.map lD, ∀ b ∈ l.map lD, keyToks a = keyToks b → a = b := fun a ha b hb e => by
  obtain ⟨w, _, rfl⟩ := List.mem_map.mp ha
  obtain ⟨w', _, rfl⟩ := List.mem_map.mp hb
  have h : w = w' := toksAll_nat (by simpa only [keyToks] using e)
  rw [h]
/-- the least of some tuples: by min, or as the first of the sorted ones -/
theorem least_tups {l : List (List Nat)} (hne : l ≠ []) (hn : ∀ x ∈ l, x ≠ []) (hl : l.length ≤ 16777216) : ∃ m ∈ l, bMin (.list (l.map lD)) = some (lD m) ∧ ∃ S, bSorted (.list (l.map lD)) = some (.list S) ∧ atI S 0 = some (lD m) ∧ S.length = l.length := by
  cases l with
  | nil => exact absurd rfl hne
  | cons w r =>
    have h1 := bMin_gl (x := lD w) (r := r.map lD) rfl (okAl_tups (w :: r))
    have h2 := minD_spec (lD w) (r.map lD)
    obtain ⟨m, hm, e⟩ := List.mem_map.mp (show minD (lD w) (r.map lD) ∈ (w :: r).map lD from h2.1)
    refine ⟨m, hm, ?_, sortD ((w :: r).map lD), ?_, ?_, ?_⟩
    · rw [e]; exact h1
    · simp only [bSorted]
      rw [if_pos (okSort_tups hn hl)]
    · have hlen : (sortD ((w :: r).map lD)).length = (w :: r).length := by rw [(sortD_perm _).length_eq, List.length_map]
      have hl0 : 0 < (sortD ((w :: r).map lD)).length := by rw [hlen, List.length_cons]; omega
      rw [atI_lt (by omega) (by omega)]
      show (sortD ((w :: r).map lD))[0]? = _
      have h3 := sort_head (List.getElem?_eq_getElem hl0)
      rw [List.getElem?_eq_getElem hl0, e]
      exact congrArg some (minimal_unique (inj_tups (w :: r)) h3 h2)
    · rw [(sortD_perm _).length_eq, List.length_map]
def sortN (ls : List (List Nat)) : List (List Nat) := ls.mergeSort fun a b => PySem.W.dataLe false id (lD a) (lD b)
theorem sortN_D (ls : List (List Nat)) : sortD (ls.map lD) = (sortN ls).map lD := by
  unfold sortD sortN
  exact (List.map_mergeSort (r := fun a b => PySem.W.dataLe false id (lD a) (lD b)) (s := PySem.W.dataLe false id) (f := lD) (l := ls) fun a _ b _ => rfl).symm
theorem sortN_perm (ls : List (List Nat)) : (sortN ls).Perm ls := List.mergeSort_perm _ _
theorem bSorted_tups {ls : List (List Nat)} (hne : ∀ l ∈ ls, l ≠ []) (h : ls.length ≤ 16777216) : bSorted (.list (ls.map lD)) = some (.list ((sortN ls).map lD)) := by
  simp only [bSorted]
  rw [if_pos (okSort_tups hne h), sortN_D]
theorem eqvAll_nat : ∀ l m : List Nat, PyData.eqvAll (l.map nD) (m.map nD) = decide (l = m)
  | [], [] => rfl
  | [], y :: t => rfl
  | x :: r, [] => rfl
  | x :: r, y :: t => by
    show (PyData.eqv (nD x) (nD y) && PyData.eqvAll (r.map nD) (t.map nD)) = _
    rw [eqvAll_nat r t, eqv_i, ← Bool.decide_and]
    exact decide_eq_decide.mpr ⟨fun h => by rw [show x = y by omega, h.2], fun h => ⟨by have := (List.cons.inj h).1; omega, (List.cons.inj h).2⟩⟩
theorem eqv_lD (l m : List Nat) : PyData.eqv (lD l) (lD m) = decide (l = m) := eqvAll_nat l m
theorem any_lD {l : List Nat} : ∀ ls : List (List Nat), ((ls.map lD).any fun y => PyData.eqv y (lD l)) = decide (l ∈ ls)
  | [] => rfl
  | x :: r => by
    rw [List.map_cons, List.any_cons, any_lD r, eqv_lD, ← Bool.decide_or]
    exact decide_eq_decide.mpr ⟨fun h => h.elim (fun h => by rw [h]; exact List.mem_cons_self) (List.mem_cons_of_mem _), fun h => (List.mem_cons.mp h).elim (fun h => .inl h.symm) .inr⟩
theorem oIn_lD {l : List Nat} {ls : List (List Nat)} : oIn (lD l) (.list (ls.map lD)) = some (.bool (decide (l ∈ ls))) := by
  show (isIn (.tuple (l.map nD)) (.list (ls.map lD))).map PyData.bool = _
  have h : PyData.depth (.tuple (l.map nD)) ≤ 2 := depth_lD l
  have e : isIn (.tuple (l.map nD)) (.list (ls.map lD)) = some (decide (l ∈ ls)) := by
    simp only [isIn]
    rw [if_pos (Nat.le_trans (Nat.min_le_right _ _) (by omega)), any_lD]
  rw [e]
  rfl
theorem bAny_map {α : Type} (l : List α) (f : α → Bool) : bAny (.list (l.map fun x => .bool (f x))) = some (.bool (l.any f)) := by
  show (boolsOf _).map _ = _
  rw [boolsOf_map]
  show some (PyData.bool ((l.map f).any fun b => b)) = _
  rw [List.any_map]
  rfl
theorem oIn_nt {k : Nat} {l : List Nat} : oIn (nD k) (.tuple (l.map nD)) = some (.bool (decide (k ∈ l))) := by
  simp only [oIn, isIn]
  rw [if_pos (Nat.le_trans (Nat.min_le_right _ _) (by simp [PyData.depth])), any_nat]
  rfl
theorem zipD_two {α β : Type} (f : α → D) (g : β → D) : ∀ (a : List α) (b : List β), zipD (a.map f) (b.map g) = (a.zip b).map fun p => .tuple [f p.1, g p.2]
  | [], _ => by cases ‹List β› <;> rfl
  | x :: r, [] => rfl
  | x :: r, y :: t => by
    rw [List.map_cons, List.map_cons, List.zip_cons_cons, List.map_cons, ← zipD_two f g r t]
    rfl
theorem head_at {α : Type} {f : α → D} {l : List α} {x : α} (h : l ≠ []) : atI (l.map f) 0 = some (f (l.head?.getD x)) := by
  cases l with
  | nil => exact absurd rfl h
  | cons y r =>
    rw [show (0 : Int) = ((0 : Nat) : Int) from rfl, atI_mp (x := y) (by simp)]
    rfl
theorem cut_map {α β : Type} (f : α → β) (l : List α) (lo hi : Option Int) : Wk.cut (l.map f) lo hi = (Wk.cut l lo hi).map f := by
  unfold Wk.cut
  rw [List.length_map, List.map_take, List.map_drop]
theorem mxn {l : List Nat} (h : l ≠ []) : ∃ m : Nat, m ∈ l ∧ (∀ y ∈ l, y ≤ m) ∧ bMax (.list (l.map nD)) = some (nD m) := by
  have e : l.map nD = (l.map fun k : Nat => (k : Int)).map .int := by rw [List.map_map]; rfl
  have hn : (l.map fun k : Nat => (k : Int)) ≠ [] := by simpa using h
  obtain ⟨h1, h2⟩ := mxL_mem hn
  obtain ⟨m, hm, hm2⟩ := List.mem_map.mp h1
  refine ⟨m, hm, fun y hy => ?_, ?_⟩
  · have := h2 _ (List.mem_map_of_mem (f := fun k : Nat => (k : Int)) hy)
    rw [← hm2] at this
    omega
  · rw [e, bMax_l hn, ← hm2]
theorem getN_last {l : List Nat} (h : l ≠ []) : atI (l.map nD) (-1) = some (nD (l.getD (l.length - 1) 0)) := by
  have h1 : 1 ≤ (l.map nD).length := by rw [List.length_map]; have := List.length_pos_iff.mpr h; omega
  rw [getLast_at (x := nD 0) h1, List.length_map]
  have h2 : l.length - 1 < l.length := by have := List.length_pos_iff.mpr h; omega
  rw [List.getD_eq_getElem?_getD, List.getElem?_map, getD_in (x := 0) h2]
  rfl
end Wk
set_option Elab.async false
set_option linter.all false
set_option maxRecDepth 3000
set_option maxHeartbeats 1000000
namespace Wk
open PySem PySem.Spec PyProof.Rows L2
/-! ### the law's own draws and comparison -/
theorem roll_ok {c : Cup} {n : Int} (hc : CupOk c) (h0 : 0 < n) (h1 : n < 1073741824) : ∃ r c', m__law_roll [.int n] c = some (.int r, c') ∧ CupOk c' ∧ 0 ≤ r ∧ r < n := by
  obtain ⟨h2, h3, h4⟩ := hc
  unfold m__law_roll b__law_roll
  by_cases hp : 0 < c.1
  · simp -implicitDefEqProofs (disch := (first | omega | assumption | (simp only [List.length_append, List.length_map, rangeD_len, List.length_cons, List.length_nil, List.length_range, List.length_reverse]; omega))) only [sVar_0, sVar_1, sVar_2, sVar_3, sVar_4, sVar_5, sVar_6, sVar_7, sVar_8, sVar_9, sVar_10, sVar_11, sVar_12, sVar_13, sVar_14, sVar_15, sVar_16, sVar_17, sVar_18, sVar_19, sVar_20, sVar_21, sVar_22, sVar_23, sVar_24, sVar_25, sVar_26, sVar_27, sVar_28, sVar_29, sVar_30, sVar_31, sVar_32, sVar_33, sVar_34, sC_e, sDct_e, bSortedA_l, bSortedA_t, bSortedA_s, sOp_e, sU_e, sB_b, boolD_b, sAnd_e, sOr_e, sNot_e, sAndV_e, sOrV_e, sNotV_e, sIf_e, sNeg_e, negD_i, sCall_e, sNil_e, sCons_e, sTup_e, sLst_e, sIsi_e, sNoP_e, sPart_e, intD_i, sSl_e, sCup0_e, sCup1_e, sChain_e, sSkip_e, sSeq_e, thenO_nx, thenO_rt, thenO_bk, thenO_ct, sDrop_e, sRet_e, sRetN_e, sIte_e, sSet_e, sSets_e, setAll_nil, setAll_cons, sApp_e, sExt_e, sPut_e, sAug_e, sAugI_e, sPut0_e, sPut1_e, put0_i, put1_i, sFor_e, sItems_e, sRange1_e, range1_i, sRange2_e, sComp_e, tgN_e, wipeE_nil, wipeE_cons, sYes_e, runD_e, outR_rt, outR_nx, env0_t, env0_f, oAdd_i, oAdd_s, oAdd_l, oAdd_t, oAddL_l, oSub_i, oMul_i, oMul_s, oMul_l, oMulL_l, oMul_t, oDiv_i, oMod_i, oLt_i, oLe_i, oLt_s, oLe_s, oGt_i, oGe_i, oEq_i, oNe_i, oEq_s, oNe_s, oIs_n, oIsNot_n, oIs_b, oIn_s, bLen_l, bLen_t, bLen_s, bInt_i, bStr_s, bTuple_l, bTuple_t, bList_l, bList_t, itemsOf_l, itemsOf_t, itemsOf_s, isTy, isNonB, bTupleA_l, bTupleA_t, bTupleA_s, bListA_l, bListA_t, bListA_s, bRev_l, bRev_t, bRev_s, mCount_s, sZip_e, sEnum_e, sComp2_e, sLstR_e, sTupR_e, tgTup2_e, sUnp_e, unpD_2, unpD_3, unpD_4, bAll_2, oIx_s, oIx_l, oIx_t, oSl_s, oSl_l, oSl_t, oNe_ln, oEq_ln, Option.bind_some, Option.bind_none, Option.map_some, Option.map_none, List.set_cons_zero, List.set_cons_succ, List.map_cons, List.map_nil, List.replicate_succ, List.replicate_zero, List.cons_append, List.nil_append, List.length_cons, List.length_nil, if_true, if_false, Bool.not_true, Bool.not_false, Bool.false_eq_true, reduceIte, decide_true, decide_false, Bool.true_and, Bool.false_and, Bool.and_true, Bool.and_false, Nat.reduceLeDiff, Nat.reduceAdd, Nat.zero_add, and_self, and_true, true_and, and_false, false_and, hp]
    exact ⟨_, _, rfl, ⟨Int.ediv_nonneg h2 (by omega), h3, h4⟩, Int.emod_nonneg _ (by omega), Int.emod_lt_of_pos _ h0⟩
  · simp -implicitDefEqProofs (disch := (first | omega | assumption | (simp only [List.length_append, List.length_map, rangeD_len, List.length_cons, List.length_nil, List.length_range, List.length_reverse]; omega))) only [sVar_0, sVar_1, sVar_2, sVar_3, sVar_4, sVar_5, sVar_6, sVar_7, sVar_8, sVar_9, sVar_10, sVar_11, sVar_12, sVar_13, sVar_14, sVar_15, sVar_16, sVar_17, sVar_18, sVar_19, sVar_20, sVar_21, sVar_22, sVar_23, sVar_24, sVar_25, sVar_26, sVar_27, sVar_28, sVar_29, sVar_30, sVar_31, sVar_32, sVar_33, sVar_34, sC_e, sDct_e, bSortedA_l, bSortedA_t, bSortedA_s, sOp_e, sU_e, sB_b, boolD_b, sAnd_e, sOr_e, sNot_e, sAndV_e, sOrV_e, sNotV_e, sIf_e, sNeg_e, negD_i, sCall_e, sNil_e, sCons_e, sTup_e, sLst_e, sIsi_e, sNoP_e, sPart_e, intD_i, sSl_e, sCup0_e, sCup1_e, sChain_e, sSkip_e, sSeq_e, thenO_nx, thenO_rt, thenO_bk, thenO_ct, sDrop_e, sRet_e, sRetN_e, sIte_e, sSet_e, sSets_e, setAll_nil, setAll_cons, sApp_e, sExt_e, sPut_e, sAug_e, sAugI_e, sPut0_e, sPut1_e, put0_i, put1_i, sFor_e, sItems_e, sRange1_e, range1_i, sRange2_e, sComp_e, tgN_e, wipeE_nil, wipeE_cons, sYes_e, runD_e, outR_rt, outR_nx, env0_t, env0_f, oAdd_i, oAdd_s, oAdd_l, oAdd_t, oAddL_l, oSub_i, oMul_i, oMul_s, oMul_l, oMulL_l, oMul_t, oDiv_i, oMod_i, oLt_i, oLe_i, oLt_s, oLe_s, oGt_i, oGe_i, oEq_i, oNe_i, oEq_s, oNe_s, oIs_n, oIsNot_n, oIs_b, oIn_s, bLen_l, bLen_t, bLen_s, bInt_i, bStr_s, bTuple_l, bTuple_t, bList_l, bList_t, itemsOf_l, itemsOf_t, itemsOf_s, isTy, isNonB, bTupleA_l, bTupleA_t, bTupleA_s, bListA_l, bListA_t, bListA_s, bRev_l, bRev_t, bRev_s, mCount_s, sZip_e, sEnum_e, sComp2_e, sLstR_e, sTupR_e, tgTup2_e, sUnp_e, unpD_2, unpD_3, unpD_4, bAll_2, oIx_s, oIx_l, oIx_t, oSl_s, oSl_l, oSl_t, oNe_ln, oEq_ln, Option.bind_some, Option.bind_none, Option.map_some, Option.map_none, List.set_cons_zero, List.set_cons_succ, List.map_cons, List.map_nil, List.replicate_succ, List.replicate_zero, List.cons_append, List.nil_append, List.length_cons, List.length_nil, if_true, if_false, Bool.not_true, Bool.not_false, Bool.false_eq_true, reduceIte, decide_true, decide_false, Bool.true_and, Bool.false_and, Bool.and_true, Bool.and_false, Nat.reduceLeDiff, Nat.reduceAdd, Nat.zero_add, and_self, and_true, true_and, and_false, false_and, hp]
    exact ⟨_, _, rfl, ⟨h2, by dsimp only; omega, by dsimp only; omega⟩, Int.emod_nonneg _ (by omega), Int.emod_lt_of_pos _ h0⟩
theorem some_l {c : Cup} {ds : List D} (hc : CupOk c) (h0 : 0 < ds.length) (h1 : ds.length < 1073741824) : ∃ d c', m__law_some [.list ds] c = some (d, c') ∧ CupOk c' ∧ d ∈ ds := by
  obtain ⟨r, c', e, hc', hr0, hr1⟩ := roll_ok (n := ds.length) hc (by omega) (by omega)
  have hl : r.toNat < ds.length := by omega
  unfold m__law_some b__law_some
  simp -implicitDefEqProofs (disch := (first | omega | assumption | (simp only [List.length_append, List.length_map, rangeD_len, List.length_cons, List.length_nil, List.length_range, List.length_reverse]; omega))) only [sVar_0, sVar_1, sVar_2, sVar_3, sVar_4, sVar_5, sVar_6, sVar_7, sVar_8, sVar_9, sVar_10, sVar_11, sVar_12, sVar_13, sVar_14, sVar_15, sVar_16, sVar_17, sVar_18, sVar_19, sVar_20, sVar_21, sVar_22, sVar_23, sVar_24, sVar_25, sVar_26, sVar_27, sVar_28, sVar_29, sVar_30, sVar_31, sVar_32, sVar_33, sVar_34, sC_e, sDct_e, bSortedA_l, bSortedA_t, bSortedA_s, sOp_e, sU_e, sB_b, boolD_b, sAnd_e, sOr_e, sNot_e, sAndV_e, sOrV_e, sNotV_e, sIf_e, sNeg_e, negD_i, sCall_e, sNil_e, sCons_e, sTup_e, sLst_e, sIsi_e, sNoP_e, sPart_e, intD_i, sSl_e, sCup0_e, sCup1_e, sChain_e, sSkip_e, sSeq_e, thenO_nx, thenO_rt, thenO_bk, thenO_ct, sDrop_e, sRet_e, sRetN_e, sIte_e, sSet_e, sSets_e, setAll_nil, setAll_cons, sApp_e, sExt_e, sPut_e, sAug_e, sAugI_e, sPut0_e, sPut1_e, put0_i, put1_i, sFor_e, sItems_e, sRange1_e, range1_i, sRange2_e, sComp_e, tgN_e, wipeE_nil, wipeE_cons, sYes_e, runD_e, outR_rt, outR_nx, env0_t, env0_f, oAdd_i, oAdd_s, oAdd_l, oAdd_t, oAddL_l, oSub_i, oMul_i, oMul_s, oMul_l, oMulL_l, oMul_t, oDiv_i, oMod_i, oLt_i, oLe_i, oLt_s, oLe_s, oGt_i, oGe_i, oEq_i, oNe_i, oEq_s, oNe_s, oIs_n, oIsNot_n, oIs_b, oIn_s, bLen_l, bLen_t, bLen_s, bInt_i, bStr_s, bTuple_l, bTuple_t, bList_l, bList_t, itemsOf_l, itemsOf_t, itemsOf_s, isTy, isNonB, bTupleA_l, bTupleA_t, bTupleA_s, bListA_l, bListA_t, bListA_s, bRev_l, bRev_t, bRev_s, mCount_s, sZip_e, sEnum_e, sComp2_e, sLstR_e, sTupR_e, tgTup2_e, sUnp_e, unpD_2, unpD_3, unpD_4, bAll_2, oIx_s, oIx_l, oIx_t, oSl_s, oSl_l, oSl_t, oNe_ln, oEq_ln, Option.bind_some, Option.bind_none, Option.map_some, Option.map_none, List.set_cons_zero, List.set_cons_succ, List.map_cons, List.map_nil, List.replicate_succ, List.replicate_zero, List.cons_append, List.nil_append, List.length_cons, List.length_nil, if_true, if_false, Bool.not_true, Bool.not_false, Bool.false_eq_true, reduceIte, decide_true, decide_false, Bool.true_and, Bool.false_and, Bool.and_true, Bool.and_false, Nat.reduceLeDiff, Nat.reduceAdd, Nat.zero_add, and_self, and_true, true_and, and_false, false_and, e, oIx, atI_lt, List.getElem?_eq_getElem hl]
  exact ⟨_, _, rfl, hc', List.getElem_mem hl⟩
theorem some_t {c : Cup} {ds : List D} (hc : CupOk c) (h0 : 0 < ds.length) (h1 : ds.length < 1073741824) : ∃ d c', m__law_some [.tuple ds] c = some (d, c') ∧ CupOk c' ∧ d ∈ ds := by
  obtain ⟨r, c', e, hc', hr0, hr1⟩ := roll_ok (n := ds.length) hc (by omega) (by omega)
  have hl : r.toNat < ds.length := by omega
  unfold m__law_some b__law_some
  simp -implicitDefEqProofs (disch := (first | omega | assumption | (simp only [List.length_append, List.length_map, rangeD_len, List.length_cons, List.length_nil, List.length_range, List.length_reverse]; omega))) only [sVar_0, sVar_1, sVar_2, sVar_3, sVar_4, sVar_5, sVar_6, sVar_7, sVar_8, sVar_9, sVar_10, sVar_11, sVar_12, sVar_13, sVar_14, sVar_15, sVar_16, sVar_17, sVar_18, sVar_19, sVar_20, sVar_21, sVar_22, sVar_23, sVar_24, sVar_25, sVar_26, sVar_27, sVar_28, sVar_29, sVar_30, sVar_31, sVar_32, sVar_33, sVar_34, sC_e, sDct_e, bSortedA_l, bSortedA_t, bSortedA_s, sOp_e, sU_e, sB_b, boolD_b, sAnd_e, sOr_e, sNot_e, sAndV_e, sOrV_e, sNotV_e, sIf_e, sNeg_e, negD_i, sCall_e, sNil_e, sCons_e, sTup_e, sLst_e, sIsi_e, sNoP_e, sPart_e, intD_i, sSl_e, sCup0_e, sCup1_e, sChain_e, sSkip_e, sSeq_e, thenO_nx, thenO_rt, thenO_bk, thenO_ct, sDrop_e, sRet_e, sRetN_e, sIte_e, sSet_e, sSets_e, setAll_nil, setAll_cons, sApp_e, sExt_e, sPut_e, sAug_e, sAugI_e, sPut0_e, sPut1_e, put0_i, put1_i, sFor_e, sItems_e, sRange1_e, range1_i, sRange2_e, sComp_e, tgN_e, wipeE_nil, wipeE_cons, sYes_e, runD_e, outR_rt, outR_nx, env0_t, env0_f, oAdd_i, oAdd_s, oAdd_l, oAdd_t, oAddL_l, oSub_i, oMul_i, oMul_s, oMul_l, oMulL_l, oMul_t, oDiv_i, oMod_i, oLt_i, oLe_i, oLt_s, oLe_s, oGt_i, oGe_i, oEq_i, oNe_i, oEq_s, oNe_s, oIs_n, oIsNot_n, oIs_b, oIn_s, bLen_l, bLen_t, bLen_s, bInt_i, bStr_s, bTuple_l, bTuple_t, bList_l, bList_t, itemsOf_l, itemsOf_t, itemsOf_s, isTy, isNonB, bTupleA_l, bTupleA_t, bTupleA_s, bListA_l, bListA_t, bListA_s, bRev_l, bRev_t, bRev_s, mCount_s, sZip_e, sEnum_e, sComp2_e, sLstR_e, sTupR_e, tgTup2_e, sUnp_e, unpD_2, unpD_3, unpD_4, bAll_2, oIx_s, oIx_l, oIx_t, oSl_s, oSl_l, oSl_t, oNe_ln, oEq_ln, Option.bind_some, Option.bind_none, Option.map_some, Option.map_none, List.set_cons_zero, List.set_cons_succ, List.map_cons, List.map_nil, List.replicate_succ, List.replicate_zero, List.cons_append, List.nil_append, List.length_cons, List.length_nil, if_true, if_false, Bool.not_true, Bool.not_false, Bool.false_eq_true, reduceIte, decide_true, decide_false, Bool.true_and, Bool.false_and, Bool.and_true, Bool.and_false, Nat.reduceLeDiff, Nat.reduceAdd, Nat.zero_add, and_self, and_true, true_and, and_false, false_and, e, oIx, atI_lt, List.getElem?_eq_getElem hl]
  exact ⟨_, _, rfl, hc', List.getElem_mem hl⟩
theorem some_s {c : Cup} {l : List Nat} (hc : CupOk c) (h0 : 0 < l.length) (h1 : l.length < 1073741824) : ∃ n c', m__law_some [ps l] c = some (ps [n], c') ∧ CupOk c' ∧ n ∈ l := by
  obtain ⟨r, c', e, hc', hr0, hr1⟩ := roll_ok (n := l.length) hc (by omega) (by omega)
  have hl : r.toNat < l.length := by omega
  unfold m__law_some b__law_some
  simp -implicitDefEqProofs (disch := (first | omega | assumption | (simp only [List.length_append, List.length_map, rangeD_len, List.length_cons, List.length_nil, List.length_range, List.length_reverse]; omega))) only [sVar_0, sVar_1, sVar_2, sVar_3, sVar_4, sVar_5, sVar_6, sVar_7, sVar_8, sVar_9, sVar_10, sVar_11, sVar_12, sVar_13, sVar_14, sVar_15, sVar_16, sVar_17, sVar_18, sVar_19, sVar_20, sVar_21, sVar_22, sVar_23, sVar_24, sVar_25, sVar_26, sVar_27, sVar_28, sVar_29, sVar_30, sVar_31, sVar_32, sVar_33, sVar_34, sC_e, sDct_e, bSortedA_l, bSortedA_t, bSortedA_s, sOp_e, sU_e, sB_b, boolD_b, sAnd_e, sOr_e, sNot_e, sAndV_e, sOrV_e, sNotV_e, sIf_e, sNeg_e, negD_i, sCall_e, sNil_e, sCons_e, sTup_e, sLst_e, sIsi_e, sNoP_e, sPart_e, intD_i, sSl_e, sCup0_e, sCup1_e, sChain_e, sSkip_e, sSeq_e, thenO_nx, thenO_rt, thenO_bk, thenO_ct, sDrop_e, sRet_e, sRetN_e, sIte_e, sSet_e, sSets_e, setAll_nil, setAll_cons, sApp_e, sExt_e, sPut_e, sAug_e, sAugI_e, sPut0_e, sPut1_e, put0_i, put1_i, sFor_e, sItems_e, sRange1_e, range1_i, sRange2_e, sComp_e, tgN_e, wipeE_nil, wipeE_cons, sYes_e, runD_e, outR_rt, outR_nx, env0_t, env0_f, oAdd_i, oAdd_s, oAdd_l, oAdd_t, oAddL_l, oSub_i, oMul_i, oMul_s, oMul_l, oMulL_l, oMul_t, oDiv_i, oMod_i, oLt_i, oLe_i, oLt_s, oLe_s, oGt_i, oGe_i, oEq_i, oNe_i, oEq_s, oNe_s, oIs_n, oIsNot_n, oIs_b, oIn_s, bLen_l, bLen_t, bLen_s, bInt_i, bStr_s, bTuple_l, bTuple_t, bList_l, bList_t, itemsOf_l, itemsOf_t, itemsOf_s, isTy, isNonB, bTupleA_l, bTupleA_t, bTupleA_s, bListA_l, bListA_t, bListA_s, bRev_l, bRev_t, bRev_s, mCount_s, sZip_e, sEnum_e, sComp2_e, sLstR_e, sTupR_e, tgTup2_e, sUnp_e, unpD_2, unpD_3, unpD_4, bAll_2, oIx_s, oIx_l, oIx_t, oSl_s, oSl_l, oSl_t, oNe_ln, oEq_ln, Option.bind_some, Option.bind_none, Option.map_some, Option.map_none, List.set_cons_zero, List.set_cons_succ, List.map_cons, List.map_nil, List.replicate_succ, List.replicate_zero, List.cons_append, List.nil_append, List.length_cons, List.length_nil, if_true, if_false, Bool.not_true, Bool.not_false, Bool.false_eq_true, reduceIte, decide_true, decide_false, Bool.true_and, Bool.false_and, Bool.and_true, Bool.and_false, Nat.reduceLeDiff, Nat.reduceAdd, Nat.zero_add, and_self, and_true, true_and, and_false, false_and, e, oIx, cl_mk, atI_lt, List.getElem?_eq_getElem hl]
  exact ⟨_, _, rfl, hc', List.getElem_mem hl⟩
def SameOk : Nat → D → Prop
  | 0, _ => False
  | _ + 1, .none => True
  | _ + 1, .bool _ => True
  | _ + 1, .int _ => True
  | _ + 1, .str _ => True
  | k + 1, .tuple ds => ds.length ≤ 16777216 ∧ ∀ d ∈ ds, SameOk k d
  | _ + 1, _ => False
theorem eqv_str (s : Str) : PyData.eqv (.str s) (.str s) = true := by
  show (s == s) = true
  exact beq_self_eq_true s
theorem same_ok : ∀ (k : Nat) (d : D), SameOk k d → ∀ c, m__law_same k [d, d] c = some (.bool true, c) := by
  intro k
  induction k with
  | zero => intro d h c; exact h.elim
  | succ k ih =>
    intro d h c
    unfold m__law_same b__law_same
    cases d with
    | none => simp -implicitDefEqProofs (disch := (first | omega | assumption | (simp only [List.length_append, List.length_map, rangeD_len, List.length_cons, List.length_nil, List.length_range, List.length_reverse]; omega))) only [sVar_0, sVar_1, sVar_2, sVar_3, sVar_4, sVar_5, sVar_6, sVar_7, sVar_8, sVar_9, sVar_10, sVar_11, sVar_12, sVar_13, sVar_14, sVar_15, sVar_16, sVar_17, sVar_18, sVar_19, sVar_20, sVar_21, sVar_22, sVar_23, sVar_24, sVar_25, sVar_26, sVar_27, sVar_28, sVar_29, sVar_30, sVar_31, sVar_32, sVar_33, sVar_34, sC_e, sDct_e, bSortedA_l, bSortedA_t, bSortedA_s, sOp_e, sU_e, sB_b, boolD_b, sAnd_e, sOr_e, sNot_e, sAndV_e, sOrV_e, sNotV_e, sIf_e, sNeg_e, negD_i, sCall_e, sNil_e, sCons_e, sTup_e, sLst_e, sIsi_e, sNoP_e, sPart_e, intD_i, sSl_e, sCup0_e, sCup1_e, sChain_e, sSkip_e, sSeq_e, thenO_nx, thenO_rt, thenO_bk, thenO_ct, sDrop_e, sRet_e, sRetN_e, sIte_e, sSet_e, sSets_e, setAll_nil, setAll_cons, sApp_e, sExt_e, sPut_e, sAug_e, sAugI_e, sPut0_e, sPut1_e, put0_i, put1_i, sFor_e, sItems_e, sRange1_e, range1_i, sRange2_e, sComp_e, tgN_e, wipeE_nil, wipeE_cons, sYes_e, runD_e, outR_rt, outR_nx, env0_t, env0_f, oAdd_i, oAdd_s, oAdd_l, oAdd_t, oAddL_l, oSub_i, oMul_i, oMul_s, oMul_l, oMulL_l, oMul_t, oDiv_i, oMod_i, oLt_i, oLe_i, oLt_s, oLe_s, oGt_i, oGe_i, oEq_i, oNe_i, oEq_s, oNe_s, oIs_n, oIsNot_n, oIs_b, oIn_s, bLen_l, bLen_t, bLen_s, bInt_i, bStr_s, bTuple_l, bTuple_t, bList_l, bList_t, itemsOf_l, itemsOf_t, itemsOf_s, isTy, isNonB, bTupleA_l, bTupleA_t, bTupleA_s, bListA_l, bListA_t, bListA_s, bRev_l, bRev_t, bRev_s, mCount_s, sZip_e, sEnum_e, sComp2_e, sLstR_e, sTupR_e, tgTup2_e, sUnp_e, unpD_2, unpD_3, unpD_4, bAll_2, oIx_s, oIx_l, oIx_t, oSl_s, oSl_l, oSl_t, oNe_ln, oEq_ln, Option.bind_some, Option.bind_none, Option.map_some, Option.map_none, List.set_cons_zero, List.set_cons_succ, List.map_cons, List.map_nil, List.replicate_succ, List.replicate_zero, List.cons_append, List.nil_append, List.length_cons, List.length_nil, if_true, if_false, Bool.not_true, Bool.not_false, Bool.false_eq_true, reduceIte, decide_true, decide_false, Bool.true_and, Bool.false_and, Bool.and_true, Bool.and_false, Nat.reduceLeDiff, Nat.reduceAdd, Nat.zero_add, and_self, and_true, true_and, and_false, false_and]
    | bool b => cases b <;> simp -implicitDefEqProofs (disch := (first | omega | assumption | (simp only [List.length_append, List.length_map, rangeD_len, List.length_cons, List.length_nil, List.length_range, List.length_reverse]; omega))) only [sVar_0, sVar_1, sVar_2, sVar_3, sVar_4, sVar_5, sVar_6, sVar_7, sVar_8, sVar_9, sVar_10, sVar_11, sVar_12, sVar_13, sVar_14, sVar_15, sVar_16, sVar_17, sVar_18, sVar_19, sVar_20, sVar_21, sVar_22, sVar_23, sVar_24, sVar_25, sVar_26, sVar_27, sVar_28, sVar_29, sVar_30, sVar_31, sVar_32, sVar_33, sVar_34, sC_e, sDct_e, bSortedA_l, bSortedA_t, bSortedA_s, sOp_e, sU_e, sB_b, boolD_b, sAnd_e, sOr_e, sNot_e, sAndV_e, sOrV_e, sNotV_e, sIf_e, sNeg_e, negD_i, sCall_e, sNil_e, sCons_e, sTup_e, sLst_e, sIsi_e, sNoP_e, sPart_e, intD_i, sSl_e, sCup0_e, sCup1_e, sChain_e, sSkip_e, sSeq_e, thenO_nx, thenO_rt, thenO_bk, thenO_ct, sDrop_e, sRet_e, sRetN_e, sIte_e, sSet_e, sSets_e, setAll_nil, setAll_cons, sApp_e, sExt_e, sPut_e, sAug_e, sAugI_e, sPut0_e, sPut1_e, put0_i, put1_i, sFor_e, sItems_e, sRange1_e, range1_i, sRange2_e, sComp_e, tgN_e, wipeE_nil, wipeE_cons, sYes_e, runD_e, outR_rt, outR_nx, env0_t, env0_f, oAdd_i, oAdd_s, oAdd_l, oAdd_t, oAddL_l, oSub_i, oMul_i, oMul_s, oMul_l, oMulL_l, oMul_t, oDiv_i, oMod_i, oLt_i, oLe_i, oLt_s, oLe_s, oGt_i, oGe_i, oEq_i, oNe_i, oEq_s, oNe_s, oIs_n, oIsNot_n, oIs_b, oIn_s, bLen_l, bLen_t, bLen_s, bInt_i, bStr_s, bTuple_l, bTuple_t, bList_l, bList_t, itemsOf_l, itemsOf_t, itemsOf_s, isTy, isNonB, bTupleA_l, bTupleA_t, bTupleA_s, bListA_l, bListA_t, bListA_s, bRev_l, bRev_t, bRev_s, mCount_s, sZip_e, sEnum_e, sComp2_e, sLstR_e, sTupR_e, tgTup2_e, sUnp_e, unpD_2, unpD_3, unpD_4, bAll_2, oIx_s, oIx_l, oIx_t, oSl_s, oSl_l, oSl_t, oNe_ln, oEq_ln, Option.bind_some, Option.bind_none, Option.map_some, Option.map_none, List.set_cons_zero, List.set_cons_succ, List.map_cons, List.map_nil, List.replicate_succ, List.replicate_zero, List.cons_append, List.nil_append, List.length_cons, List.length_nil, if_true, if_false, Bool.not_true, Bool.not_false, Bool.false_eq_true, reduceIte, decide_true, decide_false, Bool.true_and, Bool.false_and, Bool.and_true, Bool.and_false, Nat.reduceLeDiff, Nat.reduceAdd, Nat.zero_add, and_self, and_true, true_and, and_false, false_and]
    | int i => simp -implicitDefEqProofs (disch := (first | omega | assumption | (simp only [List.length_append, List.length_map, rangeD_len, List.length_cons, List.length_nil, List.length_range, List.length_reverse]; omega))) only [sVar_0, sVar_1, sVar_2, sVar_3, sVar_4, sVar_5, sVar_6, sVar_7, sVar_8, sVar_9, sVar_10, sVar_11, sVar_12, sVar_13, sVar_14, sVar_15, sVar_16, sVar_17, sVar_18, sVar_19, sVar_20, sVar_21, sVar_22, sVar_23, sVar_24, sVar_25, sVar_26, sVar_27, sVar_28, sVar_29, sVar_30, sVar_31, sVar_32, sVar_33, sVar_34, sC_e, sDct_e, bSortedA_l, bSortedA_t, bSortedA_s, sOp_e, sU_e, sB_b, boolD_b, sAnd_e, sOr_e, sNot_e, sAndV_e, sOrV_e, sNotV_e, sIf_e, sNeg_e, negD_i, sCall_e, sNil_e, sCons_e, sTup_e, sLst_e, sIsi_e, sNoP_e, sPart_e, intD_i, sSl_e, sCup0_e, sCup1_e, sChain_e, sSkip_e, sSeq_e, thenO_nx, thenO_rt, thenO_bk, thenO_ct, sDrop_e, sRet_e, sRetN_e, sIte_e, sSet_e, sSets_e, setAll_nil, setAll_cons, sApp_e, sExt_e, sPut_e, sAug_e, sAugI_e, sPut0_e, sPut1_e, put0_i, put1_i, sFor_e, sItems_e, sRange1_e, range1_i, sRange2_e, sComp_e, tgN_e, wipeE_nil, wipeE_cons, sYes_e, runD_e, outR_rt, outR_nx, env0_t, env0_f, oAdd_i, oAdd_s, oAdd_l, oAdd_t, oAddL_l, oSub_i, oMul_i, oMul_s, oMul_l, oMulL_l, oMul_t, oDiv_i, oMod_i, oLt_i, oLe_i, oLt_s, oLe_s, oGt_i, oGe_i, oEq_i, oNe_i, oEq_s, oNe_s, oIs_n, oIsNot_n, oIs_b, oIn_s, bLen_l, bLen_t, bLen_s, bInt_i, bStr_s, bTuple_l, bTuple_t, bList_l, bList_t, itemsOf_l, itemsOf_t, itemsOf_s, isTy, isNonB, bTupleA_l, bTupleA_t, bTupleA_s, bListA_l, bListA_t, bListA_s, bRev_l, bRev_t, bRev_s, mCount_s, sZip_e, sEnum_e, sComp2_e, sLstR_e, sTupR_e, tgTup2_e, sUnp_e, unpD_2, unpD_3, unpD_4, bAll_2, oIx_s, oIx_l, oIx_t, oSl_s, oSl_l, oSl_t, oNe_ln, oEq_ln, Option.bind_some, Option.bind_none, Option.map_some, Option.map_none, List.set_cons_zero, List.set_cons_succ, List.map_cons, List.map_nil, List.replicate_succ, List.replicate_zero, List.cons_append, List.nil_append, List.length_cons, List.length_nil, if_true, if_false, Bool.not_true, Bool.not_false, Bool.false_eq_true, reduceIte, decide_true, decide_false, Bool.true_and, Bool.false_and, Bool.and_true, Bool.and_false, Nat.reduceLeDiff, Nat.reduceAdd, Nat.zero_add, and_self, and_true, true_and, and_false, false_and]
    | str s =>
      simp -implicitDefEqProofs (disch := (first | omega | assumption | (simp only [List.length_append, List.length_map, rangeD_len, List.length_cons, List.length_nil, List.length_range, List.length_reverse]; omega))) only [sVar_0, sVar_1, sVar_2, sVar_3, sVar_4, sVar_5, sVar_6, sVar_7, sVar_8, sVar_9, sVar_10, sVar_11, sVar_12, sVar_13, sVar_14, sVar_15, sVar_16, sVar_17, sVar_18, sVar_19, sVar_20, sVar_21, sVar_22, sVar_23, sVar_24, sVar_25, sVar_26, sVar_27, sVar_28, sVar_29, sVar_30, sVar_31, sVar_32, sVar_33, sVar_34, sC_e, sDct_e, bSortedA_l, bSortedA_t, bSortedA_s, sOp_e, sU_e, sB_b, boolD_b, sAnd_e, sOr_e, sNot_e, sAndV_e, sOrV_e, sNotV_e, sIf_e, sNeg_e, negD_i, sCall_e, sNil_e, sCons_e, sTup_e, sLst_e, sIsi_e, sNoP_e, sPart_e, intD_i, sSl_e, sCup0_e, sCup1_e, sChain_e, sSkip_e, sSeq_e, thenO_nx, thenO_rt, thenO_bk, thenO_ct, sDrop_e, sRet_e, sRetN_e, sIte_e, sSet_e, sSets_e, setAll_nil, setAll_cons, sApp_e, sExt_e, sPut_e, sAug_e, sAugI_e, sPut0_e, sPut1_e, put0_i, put1_i, sFor_e, sItems_e, sRange1_e, range1_i, sRange2_e, sComp_e, tgN_e, wipeE_nil, wipeE_cons, sYes_e, runD_e, outR_rt, outR_nx, env0_t, env0_f, oAdd_i, oAdd_s, oAdd_l, oAdd_t, oAddL_l, oSub_i, oMul_i, oMul_s, oMul_l, oMulL_l, oMul_t, oDiv_i, oMod_i, oLt_i, oLe_i, oLt_s, oLe_s, oGt_i, oGe_i, oEq_i, oNe_i, oEq_s, oNe_s, oIs_n, oIsNot_n, oIs_b, oIn_s, bLen_l, bLen_t, bLen_s, bInt_i, bStr_s, bTuple_l, bTuple_t, bList_l, bList_t, itemsOf_l, itemsOf_t, itemsOf_s, isTy, isNonB, bTupleA_l, bTupleA_t, bTupleA_s, bListA_l, bListA_t, bListA_s, bRev_l, bRev_t, bRev_s, mCount_s, sZip_e, sEnum_e, sComp2_e, sLstR_e, sTupR_e, tgTup2_e, sUnp_e, unpD_2, unpD_3, unpD_4, bAll_2, oIx_s, oIx_l, oIx_t, oSl_s, oSl_l, oSl_t, oNe_ln, oEq_ln, Option.bind_some, Option.bind_none, Option.map_some, Option.map_none, List.set_cons_zero, List.set_cons_succ, List.map_cons, List.map_nil, List.replicate_succ, List.replicate_zero, List.cons_append, List.nil_append, List.length_cons, List.length_nil, if_true, if_false, Bool.not_true, Bool.not_false, Bool.false_eq_true, reduceIte, decide_true, decide_false, Bool.true_and, Bool.false_and, Bool.and_true, Bool.and_false, Nat.reduceLeDiff, Nat.reduceAdd, Nat.zero_add, and_self, and_true, true_and, and_false, false_and]
      rw [oEq_of (by simp [PyData.depth]), eqv_str]
      rfl
    | tuple ds =>
      obtain ⟨h1, h2⟩ := h
      simp -implicitDefEqProofs (disch := (first | omega | assumption | (simp only [List.length_append, List.length_map, rangeD_len, List.length_cons, List.length_nil, List.length_range, List.length_reverse]; omega))) only [sVar_0, sVar_1, sVar_2, sVar_3, sVar_4, sVar_5, sVar_6, sVar_7, sVar_8, sVar_9, sVar_10, sVar_11, sVar_12, sVar_13, sVar_14, sVar_15, sVar_16, sVar_17, sVar_18, sVar_19, sVar_20, sVar_21, sVar_22, sVar_23, sVar_24, sVar_25, sVar_26, sVar_27, sVar_28, sVar_29, sVar_30, sVar_31, sVar_32, sVar_33, sVar_34, sC_e, sDct_e, bSortedA_l, bSortedA_t, bSortedA_s, sOp_e, sU_e, sB_b, boolD_b, sAnd_e, sOr_e, sNot_e, sAndV_e, sOrV_e, sNotV_e, sIf_e, sNeg_e, negD_i, sCall_e, sNil_e, sCons_e, sTup_e, sLst_e, sIsi_e, sNoP_e, sPart_e, intD_i, sSl_e, sCup0_e, sCup1_e, sChain_e, sSkip_e, sSeq_e, thenO_nx, thenO_rt, thenO_bk, thenO_ct, sDrop_e, sRet_e, sRetN_e, sIte_e, sSet_e, sSets_e, setAll_nil, setAll_cons, sApp_e, sExt_e, sPut_e, sAug_e, sAugI_e, sPut0_e, sPut1_e, put0_i, put1_i, sFor_e, sItems_e, sRange1_e, range1_i, sRange2_e, sComp_e, tgN_e, wipeE_nil, wipeE_cons, sYes_e, runD_e, outR_rt, outR_nx, env0_t, env0_f, oAdd_i, oAdd_s, oAdd_l, oAdd_t, oAddL_l, oSub_i, oMul_i, oMul_s, oMul_l, oMulL_l, oMul_t, oDiv_i, oMod_i, oLt_i, oLe_i, oLt_s, oLe_s, oGt_i, oGe_i, oEq_i, oNe_i, oEq_s, oNe_s, oIs_n, oIsNot_n, oIs_b, oIn_s, bLen_l, bLen_t, bLen_s, bInt_i, bStr_s, bTuple_l, bTuple_t, bList_l, bList_t, itemsOf_l, itemsOf_t, itemsOf_s, isTy, isNonB, bTupleA_l, bTupleA_t, bTupleA_s, bListA_l, bListA_t, bListA_s, bRev_l, bRev_t, bRev_s, mCount_s, sZip_e, sEnum_e, sComp2_e, sLstR_e, sTupR_e, tgTup2_e, sUnp_e, unpD_2, unpD_3, unpD_4, bAll_2, oIx_s, oIx_l, oIx_t, oSl_s, oSl_l, oSl_t, oNe_ln, oEq_ln, Option.bind_some, Option.bind_none, Option.map_some, Option.map_none, List.set_cons_zero, List.set_cons_succ, List.map_cons, List.map_nil, List.replicate_succ, List.replicate_zero, List.cons_append, List.nil_append, List.length_cons, List.length_nil, if_true, if_false, Bool.not_true, Bool.not_false, Bool.false_eq_true, reduceIte, decide_true, decide_false, Bool.true_and, Bool.false_and, Bool.and_true, Bool.and_false, Nat.reduceLeDiff, Nat.reduceAdd, Nat.zero_add, and_self, and_true, true_and, and_false, false_and, Int.toNat_natCast, rangeD_len]
      rw [if_pos h1]
      rw [compD_map (g := fun _ => .bool true) (fun x hx => by
        unfold rangeD at hx
        obtain ⟨i, hi, rfl⟩ := List.mem_map.mp hx
        have hl : i < ds.length := List.mem_range.mp hi
        refine ⟨_, rfl, ?_⟩
        have e : atI ds (0 + (i : Int)) = some ds[i] := by rw [atI_lt (by omega) (by omega), show (0 + (i : Int)).toNat = i by omega, List.getElem?_eq_getElem hl]
        simp -implicitDefEqProofs (disch := (first | omega | assumption | (simp only [List.length_append, List.length_map, rangeD_len, List.length_cons, List.length_nil, List.length_range, List.length_reverse]; omega))) only [sVar_0, sVar_1, sVar_2, sVar_3, sVar_4, sVar_5, sVar_6, sVar_7, sVar_8, sVar_9, sVar_10, sVar_11, sVar_12, sVar_13, sVar_14, sVar_15, sVar_16, sVar_17, sVar_18, sVar_19, sVar_20, sVar_21, sVar_22, sVar_23, sVar_24, sVar_25, sVar_26, sVar_27, sVar_28, sVar_29, sVar_30, sVar_31, sVar_32, sVar_33, sVar_34, sC_e, sDct_e, bSortedA_l, bSortedA_t, bSortedA_s, sOp_e, sU_e, sB_b, boolD_b, sAnd_e, sOr_e, sNot_e, sAndV_e, sOrV_e, sNotV_e, sIf_e, sNeg_e, negD_i, sCall_e, sNil_e, sCons_e, sTup_e, sLst_e, sIsi_e, sNoP_e, sPart_e, intD_i, sSl_e, sCup0_e, sCup1_e, sChain_e, sSkip_e, sSeq_e, thenO_nx, thenO_rt, thenO_bk, thenO_ct, sDrop_e, sRet_e, sRetN_e, sIte_e, sSet_e, sSets_e, setAll_nil, setAll_cons, sApp_e, sExt_e, sPut_e, sAug_e, sAugI_e, sPut0_e, sPut1_e, put0_i, put1_i, sFor_e, sItems_e, sRange1_e, range1_i, sRange2_e, sComp_e, tgN_e, wipeE_nil, wipeE_cons, sYes_e, runD_e, outR_rt, outR_nx, env0_t, env0_f, oAdd_i, oAdd_s, oAdd_l, oAdd_t, oAddL_l, oSub_i, oMul_i, oMul_s, oMul_l, oMulL_l, oMul_t, oDiv_i, oMod_i, oLt_i, oLe_i, oLt_s, oLe_s, oGt_i, oGe_i, oEq_i, oNe_i, oEq_s, oNe_s, oIs_n, oIsNot_n, oIs_b, oIn_s, bLen_l, bLen_t, bLen_s, bInt_i, bStr_s, bTuple_l, bTuple_t, bList_l, bList_t, itemsOf_l, itemsOf_t, itemsOf_s, isTy, isNonB, bTupleA_l, bTupleA_t, bTupleA_s, bListA_l, bListA_t, bListA_s, bRev_l, bRev_t, bRev_s, mCount_s, sZip_e, sEnum_e, sComp2_e, sLstR_e, sTupR_e, tgTup2_e, sUnp_e, unpD_2, unpD_3, unpD_4, bAll_2, oIx_s, oIx_l, oIx_t, oSl_s, oSl_l, oSl_t, oNe_ln, oEq_ln, Option.bind_some, Option.bind_none, Option.map_some, Option.map_none, List.set_cons_zero, List.set_cons_succ, List.map_cons, List.map_nil, List.replicate_succ, List.replicate_zero, List.cons_append, List.nil_append, List.length_cons, List.length_nil, if_true, if_false, Bool.not_true, Bool.not_false, Bool.false_eq_true, reduceIte, decide_true, decide_false, Bool.true_and, Bool.false_and, Bool.and_true, Bool.and_false, Nat.reduceLeDiff, Nat.reduceAdd, Nat.zero_add, and_self, and_true, true_and, and_false, false_and, oIx, e]
        exact ih _ (h2 _ (List.getElem_mem hl)) c)]
      simp -implicitDefEqProofs (disch := (first | omega | assumption | (simp only [List.length_append, List.length_map, rangeD_len, List.length_cons, List.length_nil, List.length_range, List.length_reverse]; omega))) only [sVar_0, sVar_1, sVar_2, sVar_3, sVar_4, sVar_5, sVar_6, sVar_7, sVar_8, sVar_9, sVar_10, sVar_11, sVar_12, sVar_13, sVar_14, sVar_15, sVar_16, sVar_17, sVar_18, sVar_19, sVar_20, sVar_21, sVar_22, sVar_23, sVar_24, sVar_25, sVar_26, sVar_27, sVar_28, sVar_29, sVar_30, sVar_31, sVar_32, sVar_33, sVar_34, sC_e, sDct_e, bSortedA_l, bSortedA_t, bSortedA_s, sOp_e, sU_e, sB_b, boolD_b, sAnd_e, sOr_e, sNot_e, sAndV_e, sOrV_e, sNotV_e, sIf_e, sNeg_e, negD_i, sCall_e, sNil_e, sCons_e, sTup_e, sLst_e, sIsi_e, sNoP_e, sPart_e, intD_i, sSl_e, sCup0_e, sCup1_e, sChain_e, sSkip_e, sSeq_e, thenO_nx, thenO_rt, thenO_bk, thenO_ct, sDrop_e, sRet_e, sRetN_e, sIte_e, sSet_e, sSets_e, setAll_nil, setAll_cons, sApp_e, sExt_e, sPut_e, sAug_e, sAugI_e, sPut0_e, sPut1_e, put0_i, put1_i, sFor_e, sItems_e, sRange1_e, range1_i, sRange2_e, sComp_e, tgN_e, wipeE_nil, wipeE_cons, sYes_e, runD_e, outR_rt, outR_nx, env0_t, env0_f, oAdd_i, oAdd_s, oAdd_l, oAdd_t, oAddL_l, oSub_i, oMul_i, oMul_s, oMul_l, oMulL_l, oMul_t, oDiv_i, oMod_i, oLt_i, oLe_i, oLt_s, oLe_s, oGt_i, oGe_i, oEq_i, oNe_i, oEq_s, oNe_s, oIs_n, oIsNot_n, oIs_b, oIn_s, bLen_l, bLen_t, bLen_s, bInt_i, bStr_s, bTuple_l, bTuple_t, bList_l, bList_t, itemsOf_l, itemsOf_t, itemsOf_s, isTy, isNonB, bTupleA_l, bTupleA_t, bTupleA_s, bListA_l, bListA_t, bListA_s, bRev_l, bRev_t, bRev_s, mCount_s, sZip_e, sEnum_e, sComp2_e, sLstR_e, sTupR_e, tgTup2_e, sUnp_e, unpD_2, unpD_3, unpD_4, bAll_2, oIx_s, oIx_l, oIx_t, oSl_s, oSl_l, oSl_t, oNe_ln, oEq_ln, Option.bind_some, Option.bind_none, Option.map_some, Option.map_none, List.set_cons_zero, List.set_cons_succ, List.map_cons, List.map_nil, List.replicate_succ, List.replicate_zero, List.cons_append, List.nil_append, List.length_cons, List.length_nil, if_true, if_false, Bool.not_true, Bool.not_false, Bool.false_eq_true, reduceIte, decide_true, decide_false, Bool.true_and, Bool.false_and, Bool.and_true, Bool.and_false, Nat.reduceLeDiff, Nat.reduceAdd, Nat.zero_add, and_self, and_true, true_and, and_false, false_and]
      rw [bAll_map]
      simp -implicitDefEqProofs (disch := (first | omega | assumption | (simp only [List.length_append, List.length_map, rangeD_len, List.length_cons, List.length_nil, List.length_range, List.length_reverse]; omega))) only [sVar_0, sVar_1, sVar_2, sVar_3, sVar_4, sVar_5, sVar_6, sVar_7, sVar_8, sVar_9, sVar_10, sVar_11, sVar_12, sVar_13, sVar_14, sVar_15, sVar_16, sVar_17, sVar_18, sVar_19, sVar_20, sVar_21, sVar_22, sVar_23, sVar_24, sVar_25, sVar_26, sVar_27, sVar_28, sVar_29, sVar_30, sVar_31, sVar_32, sVar_33, sVar_34, sC_e, sDct_e, bSortedA_l, bSortedA_t, bSortedA_s, sOp_e, sU_e, sB_b, boolD_b, sAnd_e, sOr_e, sNot_e, sAndV_e, sOrV_e, sNotV_e, sIf_e, sNeg_e, negD_i, sCall_e, sNil_e, sCons_e, sTup_e, sLst_e, sIsi_e, sNoP_e, sPart_e, intD_i, sSl_e, sCup0_e, sCup1_e, sChain_e, sSkip_e, sSeq_e, thenO_nx, thenO_rt, thenO_bk, thenO_ct, sDrop_e, sRet_e, sRetN_e, sIte_e, sSet_e, sSets_e, setAll_nil, setAll_cons, sApp_e, sExt_e, sPut_e, sAug_e, sAugI_e, sPut0_e, sPut1_e, put0_i, put1_i, sFor_e, sItems_e, sRange1_e, range1_i, sRange2_e, sComp_e, tgN_e, wipeE_nil, wipeE_cons, sYes_e, runD_e, outR_rt, outR_nx, env0_t, env0_f, oAdd_i, oAdd_s, oAdd_l, oAdd_t, oAddL_l, oSub_i, oMul_i, oMul_s, oMul_l, oMulL_l, oMul_t, oDiv_i, oMod_i, oLt_i, oLe_i, oLt_s, oLe_s, oGt_i, oGe_i, oEq_i, oNe_i, oEq_s, oNe_s, oIs_n, oIsNot_n, oIs_b, oIn_s, bLen_l, bLen_t, bLen_s, bInt_i, bStr_s, bTuple_l, bTuple_t, bList_l, bList_t, itemsOf_l, itemsOf_t, itemsOf_s, isTy, isNonB, bTupleA_l, bTupleA_t, bTupleA_s, bListA_l, bListA_t, bListA_s, bRev_l, bRev_t, bRev_s, mCount_s, sZip_e, sEnum_e, sComp2_e, sLstR_e, sTupR_e, tgTup2_e, sUnp_e, unpD_2, unpD_3, unpD_4, bAll_2, oIx_s, oIx_l, oIx_t, oSl_s, oSl_l, oSl_t, oNe_ln, oEq_ln, Option.bind_some, Option.bind_none, Option.map_some, Option.map_none, List.set_cons_zero, List.set_cons_succ, List.map_cons, List.map_nil, List.replicate_succ, List.replicate_zero, List.cons_append, List.nil_append, List.length_cons, List.length_nil, if_true, if_false, Bool.not_true, Bool.not_false, Bool.false_eq_true, reduceIte, decide_true, decide_false, Bool.true_and, Bool.false_and, Bool.and_true, Bool.and_false, Nat.reduceLeDiff, Nat.reduceAdd, Nat.zero_add, and_self, and_true, true_and, and_false, false_and]
      try simp
    | list _ => exact h.elim
    | dict _ => exact h.elim
def sgB (lo hi : Int) : D → Bool
  | .str s => decide (lo ≤ ((cl s).length : Int) ∧ ((cl s).length : Int) ≤ hi) && (cl s).all fun n => decide (n ∈ [105, 111])
  | _ => false
theorem sgB_s {lo hi : Int} {l : List Nat} : sgB lo hi (ps l) = (decide (lo ≤ (l.length : Int) ∧ (l.length : Int) ≤ hi) && l.all fun n => decide (n ∈ [105, 111])) := by simp only [sgB, cl_mk]
theorem fits_signs_d {d : D} {lo hi : Int} {c : Cup} (hh : hi ≤ 1000) : m_fits_signs [d, .int lo, .int hi] c = some (.bool (sgB lo hi d), c) := by
  unfold m_fits_signs b_fits_signs
  cases d with
  | str s =>
    rw [str_ps s, sgB_s]
    generalize cl s = l
    simp -implicitDefEqProofs (disch := (first | omega | assumption | (simp only [List.length_append, List.length_map, rangeD_len, List.length_cons, List.length_nil, List.length_range, List.length_reverse]; omega))) only [sVar_0, sVar_1, sVar_2, sVar_3, sVar_4, sVar_5, sVar_6, sVar_7, sVar_8, sVar_9, sVar_10, sVar_11, sVar_12, sVar_13, sVar_14, sVar_15, sVar_16, sVar_17, sVar_18, sVar_19, sVar_20, sVar_21, sVar_22, sVar_23, sVar_24, sVar_25, sVar_26, sVar_27, sVar_28, sVar_29, sVar_30, sVar_31, sVar_32, sVar_33, sVar_34, sC_e, sDct_e, bSortedA_l, bSortedA_t, bSortedA_s, sOp_e, sU_e, sB_b, boolD_b, sAnd_e, sOr_e, sNot_e, sAndV_e, sOrV_e, sNotV_e, sIf_e, sNeg_e, negD_i, sCall_e, sNil_e, sCons_e, sTup_e, sLst_e, sIsi_e, sNoP_e, sPart_e, intD_i, sSl_e, sCup0_e, sCup1_e, sChain_e, sSkip_e, sSeq_e, thenO_nx, thenO_rt, thenO_bk, thenO_ct, sDrop_e, sRet_e, sRetN_e, sIte_e, sSet_e, sSets_e, setAll_nil, setAll_cons, sApp_e, sExt_e, sPut_e, sAug_e, sAugI_e, sPut0_e, sPut1_e, put0_i, put1_i, sFor_e, sItems_e, sRange1_e, range1_i, sRange2_e, sComp_e, tgN_e, wipeE_nil, wipeE_cons, sYes_e, runD_e, outR_rt, outR_nx, env0_t, env0_f, oAdd_i, oAdd_s, oAdd_l, oAdd_t, oAddL_l, oSub_i, oMul_i, oMul_s, oMul_l, oMulL_l, oMul_t, oDiv_i, oMod_i, oLt_i, oLe_i, oLt_s, oLe_s, oGt_i, oGe_i, oEq_i, oNe_i, oEq_s, oNe_s, oIs_n, oIsNot_n, oIs_b, oIn_s, bLen_l, bLen_t, bLen_s, bInt_i, bStr_s, bTuple_l, bTuple_t, bList_l, bList_t, itemsOf_l, itemsOf_t, itemsOf_s, isTy, isNonB, bTupleA_l, bTupleA_t, bTupleA_s, bListA_l, bListA_t, bListA_s, bRev_l, bRev_t, bRev_s, mCount_s, sZip_e, sEnum_e, sComp2_e, sLstR_e, sTupR_e, tgTup2_e, sUnp_e, unpD_2, unpD_3, unpD_4, bAll_2, oIx_s, oIx_l, oIx_t, oSl_s, oSl_l, oSl_t, oNe_ln, oEq_ln, Option.bind_some, Option.bind_none, Option.map_some, Option.map_none, List.set_cons_zero, List.set_cons_succ, List.map_cons, List.map_nil, List.replicate_succ, List.replicate_zero, List.cons_append, List.nil_append, List.length_cons, List.length_nil, if_true, if_false, Bool.not_true, Bool.not_false, Bool.false_eq_true, reduceIte, decide_true, decide_false, Bool.true_and, Bool.false_and, Bool.and_true, Bool.and_false, Nat.reduceLeDiff, Nat.reduceAdd, Nat.zero_add, and_self, and_true, true_and, and_false, false_and]
    by_cases h1 : lo ≤ (l.length : Int)
    · by_cases h2 : (l.length : Int) ≤ hi
      · simp -implicitDefEqProofs (disch := (first | omega | assumption | (simp only [List.length_append, List.length_map, rangeD_len, List.length_cons, List.length_nil, List.length_range, List.length_reverse]; omega))) only [sVar_0, sVar_1, sVar_2, sVar_3, sVar_4, sVar_5, sVar_6, sVar_7, sVar_8, sVar_9, sVar_10, sVar_11, sVar_12, sVar_13, sVar_14, sVar_15, sVar_16, sVar_17, sVar_18, sVar_19, sVar_20, sVar_21, sVar_22, sVar_23, sVar_24, sVar_25, sVar_26, sVar_27, sVar_28, sVar_29, sVar_30, sVar_31, sVar_32, sVar_33, sVar_34, sC_e, sDct_e, bSortedA_l, bSortedA_t, bSortedA_s, sOp_e, sU_e, sB_b, boolD_b, sAnd_e, sOr_e, sNot_e, sAndV_e, sOrV_e, sNotV_e, sIf_e, sNeg_e, negD_i, sCall_e, sNil_e, sCons_e, sTup_e, sLst_e, sIsi_e, sNoP_e, sPart_e, intD_i, sSl_e, sCup0_e, sCup1_e, sChain_e, sSkip_e, sSeq_e, thenO_nx, thenO_rt, thenO_bk, thenO_ct, sDrop_e, sRet_e, sRetN_e, sIte_e, sSet_e, sSets_e, setAll_nil, setAll_cons, sApp_e, sExt_e, sPut_e, sAug_e, sAugI_e, sPut0_e, sPut1_e, put0_i, put1_i, sFor_e, sItems_e, sRange1_e, range1_i, sRange2_e, sComp_e, tgN_e, wipeE_nil, wipeE_cons, sYes_e, runD_e, outR_rt, outR_nx, env0_t, env0_f, oAdd_i, oAdd_s, oAdd_l, oAdd_t, oAddL_l, oSub_i, oMul_i, oMul_s, oMul_l, oMulL_l, oMul_t, oDiv_i, oMod_i, oLt_i, oLe_i, oLt_s, oLe_s, oGt_i, oGe_i, oEq_i, oNe_i, oEq_s, oNe_s, oIs_n, oIsNot_n, oIs_b, oIn_s, bLen_l, bLen_t, bLen_s, bInt_i, bStr_s, bTuple_l, bTuple_t, bList_l, bList_t, itemsOf_l, itemsOf_t, itemsOf_s, isTy, isNonB, bTupleA_l, bTupleA_t, bTupleA_s, bListA_l, bListA_t, bListA_s, bRev_l, bRev_t, bRev_s, mCount_s, sZip_e, sEnum_e, sComp2_e, sLstR_e, sTupR_e, tgTup2_e, sUnp_e, unpD_2, unpD_3, unpD_4, bAll_2, oIx_s, oIx_l, oIx_t, oSl_s, oSl_l, oSl_t, oNe_ln, oEq_ln, Option.bind_some, Option.bind_none, Option.map_some, Option.map_none, List.set_cons_zero, List.set_cons_succ, List.map_cons, List.map_nil, List.replicate_succ, List.replicate_zero, List.cons_append, List.nil_append, List.length_cons, List.length_nil, if_true, if_false, Bool.not_true, Bool.not_false, Bool.false_eq_true, reduceIte, decide_true, decide_false, Bool.true_and, Bool.false_and, Bool.and_true, Bool.and_false, Nat.reduceLeDiff, Nat.reduceAdd, Nat.zero_add, and_self, and_true, true_and, and_false, false_and, h1, h2, List.length_map]
        rw [if_pos (by omega), compD_mapA (h := fun n => ps [n]) (g := fun n => .bool (decide (n ∈ [105, 111]))) (fun n hn => ⟨_, rfl, by simp -implicitDefEqProofs (disch := (first | omega | assumption | (simp only [List.length_append, List.length_map, rangeD_len, List.length_cons, List.length_nil, List.length_range, List.length_reverse]; omega))) only [sVar_0, sVar_1, sVar_2, sVar_3, sVar_4, sVar_5, sVar_6, sVar_7, sVar_8, sVar_9, sVar_10, sVar_11, sVar_12, sVar_13, sVar_14, sVar_15, sVar_16, sVar_17, sVar_18, sVar_19, sVar_20, sVar_21, sVar_22, sVar_23, sVar_24, sVar_25, sVar_26, sVar_27, sVar_28, sVar_29, sVar_30, sVar_31, sVar_32, sVar_33, sVar_34, sC_e, sDct_e, bSortedA_l, bSortedA_t, bSortedA_s, sOp_e, sU_e, sB_b, boolD_b, sAnd_e, sOr_e, sNot_e, sAndV_e, sOrV_e, sNotV_e, sIf_e, sNeg_e, negD_i, sCall_e, sNil_e, sCons_e, sTup_e, sLst_e, sIsi_e, sNoP_e, sPart_e, intD_i, sSl_e, sCup0_e, sCup1_e, sChain_e, sSkip_e, sSeq_e, thenO_nx, thenO_rt, thenO_bk, thenO_ct, sDrop_e, sRet_e, sRetN_e, sIte_e, sSet_e, sSets_e, setAll_nil, setAll_cons, sApp_e, sExt_e, sPut_e, sAug_e, sAugI_e, sPut0_e, sPut1_e, put0_i, put1_i, sFor_e, sItems_e, sRange1_e, range1_i, sRange2_e, sComp_e, tgN_e, wipeE_nil, wipeE_cons, sYes_e, runD_e, outR_rt, outR_nx, env0_t, env0_f, oAdd_i, oAdd_s, oAdd_l, oAdd_t, oAddL_l, oSub_i, oMul_i, oMul_s, oMul_l, oMulL_l, oMul_t, oDiv_i, oMod_i, oLt_i, oLe_i, oLt_s, oLe_s, oGt_i, oGe_i, oEq_i, oNe_i, oEq_s, oNe_s, oIs_n, oIsNot_n, oIs_b, oIn_s, bLen_l, bLen_t, bLen_s, bInt_i, bStr_s, bTuple_l, bTuple_t, bList_l, bList_t, itemsOf_l, itemsOf_t, itemsOf_s, isTy, isNonB, bTupleA_l, bTupleA_t, bTupleA_s, bListA_l, bListA_t, bListA_s, bRev_l, bRev_t, bRev_s, mCount_s, sZip_e, sEnum_e, sComp2_e, sLstR_e, sTupR_e, tgTup2_e, sUnp_e, unpD_2, unpD_3, unpD_4, bAll_2, oIx_s, oIx_l, oIx_t, oSl_s, oSl_l, oSl_t, oNe_ln, oEq_ln, Option.bind_some, Option.bind_none, Option.map_some, Option.map_none, List.set_cons_zero, List.set_cons_succ, List.map_cons, List.map_nil, List.replicate_succ, List.replicate_zero, List.cons_append, List.nil_append, List.length_cons, List.length_nil, if_true, if_false, Bool.not_true, Bool.not_false, Bool.false_eq_true, reduceIte, decide_true, decide_false, Bool.true_and, Bool.false_and, Bool.and_true, Bool.and_false, Nat.reduceLeDiff, Nat.reduceAdd, Nat.zero_add, and_self, and_true, true_and, and_false, false_and]⟩)]
        simp -implicitDefEqProofs (disch := (first | omega | assumption | (simp only [List.length_append, List.length_map, rangeD_len, List.length_cons, List.length_nil, List.length_range, List.length_reverse]; omega))) only [sVar_0, sVar_1, sVar_2, sVar_3, sVar_4, sVar_5, sVar_6, sVar_7, sVar_8, sVar_9, sVar_10, sVar_11, sVar_12, sVar_13, sVar_14, sVar_15, sVar_16, sVar_17, sVar_18, sVar_19, sVar_20, sVar_21, sVar_22, sVar_23, sVar_24, sVar_25, sVar_26, sVar_27, sVar_28, sVar_29, sVar_30, sVar_31, sVar_32, sVar_33, sVar_34, sC_e, sDct_e, bSortedA_l, bSortedA_t, bSortedA_s, sOp_e, sU_e, sB_b, boolD_b, sAnd_e, sOr_e, sNot_e, sAndV_e, sOrV_e, sNotV_e, sIf_e, sNeg_e, negD_i, sCall_e, sNil_e, sCons_e, sTup_e, sLst_e, sIsi_e, sNoP_e, sPart_e, intD_i, sSl_e, sCup0_e, sCup1_e, sChain_e, sSkip_e, sSeq_e, thenO_nx, thenO_rt, thenO_bk, thenO_ct, sDrop_e, sRet_e, sRetN_e, sIte_e, sSet_e, sSets_e, setAll_nil, setAll_cons, sApp_e, sExt_e, sPut_e, sAug_e, sAugI_e, sPut0_e, sPut1_e, put0_i, put1_i, sFor_e, sItems_e, sRange1_e, range1_i, sRange2_e, sComp_e, tgN_e, wipeE_nil, wipeE_cons, sYes_e, runD_e, outR_rt, outR_nx, env0_t, env0_f, oAdd_i, oAdd_s, oAdd_l, oAdd_t, oAddL_l, oSub_i, oMul_i, oMul_s, oMul_l, oMulL_l, oMul_t, oDiv_i, oMod_i, oLt_i, oLe_i, oLt_s, oLe_s, oGt_i, oGe_i, oEq_i, oNe_i, oEq_s, oNe_s, oIs_n, oIsNot_n, oIs_b, oIn_s, bLen_l, bLen_t, bLen_s, bInt_i, bStr_s, bTuple_l, bTuple_t, bList_l, bList_t, itemsOf_l, itemsOf_t, itemsOf_s, isTy, isNonB, bTupleA_l, bTupleA_t, bTupleA_s, bListA_l, bListA_t, bListA_s, bRev_l, bRev_t, bRev_s, mCount_s, sZip_e, sEnum_e, sComp2_e, sLstR_e, sTupR_e, tgTup2_e, sUnp_e, unpD_2, unpD_3, unpD_4, bAll_2, oIx_s, oIx_l, oIx_t, oSl_s, oSl_l, oSl_t, oNe_ln, oEq_ln, Option.bind_some, Option.bind_none, Option.map_some, Option.map_none, List.set_cons_zero, List.set_cons_succ, List.map_cons, List.map_nil, List.replicate_succ, List.replicate_zero, List.cons_append, List.nil_append, List.length_cons, List.length_nil, if_true, if_false, Bool.not_true, Bool.not_false, Bool.false_eq_true, reduceIte, decide_true, decide_false, Bool.true_and, Bool.false_and, Bool.and_true, Bool.and_false, Nat.reduceLeDiff, Nat.reduceAdd, Nat.zero_add, and_self, and_true, true_and, and_false, false_and, bAll_map]
        try simp
      · simp -implicitDefEqProofs (disch := (first | omega | assumption | (simp only [List.length_append, List.length_map, rangeD_len, List.length_cons, List.length_nil, List.length_range, List.length_reverse]; omega))) only [sVar_0, sVar_1, sVar_2, sVar_3, sVar_4, sVar_5, sVar_6, sVar_7, sVar_8, sVar_9, sVar_10, sVar_11, sVar_12, sVar_13, sVar_14, sVar_15, sVar_16, sVar_17, sVar_18, sVar_19, sVar_20, sVar_21, sVar_22, sVar_23, sVar_24, sVar_25, sVar_26, sVar_27, sVar_28, sVar_29, sVar_30, sVar_31, sVar_32, sVar_33, sVar_34, sC_e, sDct_e, bSortedA_l, bSortedA_t, bSortedA_s, sOp_e, sU_e, sB_b, boolD_b, sAnd_e, sOr_e, sNot_e, sAndV_e, sOrV_e, sNotV_e, sIf_e, sNeg_e, negD_i, sCall_e, sNil_e, sCons_e, sTup_e, sLst_e, sIsi_e, sNoP_e, sPart_e, intD_i, sSl_e, sCup0_e, sCup1_e, sChain_e, sSkip_e, sSeq_e, thenO_nx, thenO_rt, thenO_bk, thenO_ct, sDrop_e, sRet_e, sRetN_e, sIte_e, sSet_e, sSets_e, setAll_nil, setAll_cons, sApp_e, sExt_e, sPut_e, sAug_e, sAugI_e, sPut0_e, sPut1_e, put0_i, put1_i, sFor_e, sItems_e, sRange1_e, range1_i, sRange2_e, sComp_e, tgN_e, wipeE_nil, wipeE_cons, sYes_e, runD_e, outR_rt, outR_nx, env0_t, env0_f, oAdd_i, oAdd_s, oAdd_l, oAdd_t, oAddL_l, oSub_i, oMul_i, oMul_s, oMul_l, oMulL_l, oMul_t, oDiv_i, oMod_i, oLt_i, oLe_i, oLt_s, oLe_s, oGt_i, oGe_i, oEq_i, oNe_i, oEq_s, oNe_s, oIs_n, oIsNot_n, oIs_b, oIn_s, bLen_l, bLen_t, bLen_s, bInt_i, bStr_s, bTuple_l, bTuple_t, bList_l, bList_t, itemsOf_l, itemsOf_t, itemsOf_s, isTy, isNonB, bTupleA_l, bTupleA_t, bTupleA_s, bListA_l, bListA_t, bListA_s, bRev_l, bRev_t, bRev_s, mCount_s, sZip_e, sEnum_e, sComp2_e, sLstR_e, sTupR_e, tgTup2_e, sUnp_e, unpD_2, unpD_3, unpD_4, bAll_2, oIx_s, oIx_l, oIx_t, oSl_s, oSl_l, oSl_t, oNe_ln, oEq_ln, Option.bind_some, Option.bind_none, Option.map_some, Option.map_none, List.set_cons_zero, List.set_cons_succ, List.map_cons, List.map_nil, List.replicate_succ, List.replicate_zero, List.cons_append, List.nil_append, List.length_cons, List.length_nil, if_true, if_false, Bool.not_true, Bool.not_false, Bool.false_eq_true, reduceIte, decide_true, decide_false, Bool.true_and, Bool.false_and, Bool.and_true, Bool.and_false, Nat.reduceLeDiff, Nat.reduceAdd, Nat.zero_add, and_self, and_true, true_and, and_false, false_and, h1, h2]
        try simp [h2]
    · simp -implicitDefEqProofs (disch := (first | omega | assumption | (simp only [List.length_append, List.length_map, rangeD_len, List.length_cons, List.length_nil, List.length_range, List.length_reverse]; omega))) only [sVar_0, sVar_1, sVar_2, sVar_3, sVar_4, sVar_5, sVar_6, sVar_7, sVar_8, sVar_9, sVar_10, sVar_11, sVar_12, sVar_13, sVar_14, sVar_15, sVar_16, sVar_17, sVar_18, sVar_19, sVar_20, sVar_21, sVar_22, sVar_23, sVar_24, sVar_25, sVar_26, sVar_27, sVar_28, sVar_29, sVar_30, sVar_31, sVar_32, sVar_33, sVar_34, sC_e, sDct_e, bSortedA_l, bSortedA_t, bSortedA_s, sOp_e, sU_e, sB_b, boolD_b, sAnd_e, sOr_e, sNot_e, sAndV_e, sOrV_e, sNotV_e, sIf_e, sNeg_e, negD_i, sCall_e, sNil_e, sCons_e, sTup_e, sLst_e, sIsi_e, sNoP_e, sPart_e, intD_i, sSl_e, sCup0_e, sCup1_e, sChain_e, sSkip_e, sSeq_e, thenO_nx, thenO_rt, thenO_bk, thenO_ct, sDrop_e, sRet_e, sRetN_e, sIte_e, sSet_e, sSets_e, setAll_nil, setAll_cons, sApp_e, sExt_e, sPut_e, sAug_e, sAugI_e, sPut0_e, sPut1_e, put0_i, put1_i, sFor_e, sItems_e, sRange1_e, range1_i, sRange2_e, sComp_e, tgN_e, wipeE_nil, wipeE_cons, sYes_e, runD_e, outR_rt, outR_nx, env0_t, env0_f, oAdd_i, oAdd_s, oAdd_l, oAdd_t, oAddL_l, oSub_i, oMul_i, oMul_s, oMul_l, oMulL_l, oMul_t, oDiv_i, oMod_i, oLt_i, oLe_i, oLt_s, oLe_s, oGt_i, oGe_i, oEq_i, oNe_i, oEq_s, oNe_s, oIs_n, oIsNot_n, oIs_b, oIn_s, bLen_l, bLen_t, bLen_s, bInt_i, bStr_s, bTuple_l, bTuple_t, bList_l, bList_t, itemsOf_l, itemsOf_t, itemsOf_s, isTy, isNonB, bTupleA_l, bTupleA_t, bTupleA_s, bListA_l, bListA_t, bListA_s, bRev_l, bRev_t, bRev_s, mCount_s, sZip_e, sEnum_e, sComp2_e, sLstR_e, sTupR_e, tgTup2_e, sUnp_e, unpD_2, unpD_3, unpD_4, bAll_2, oIx_s, oIx_l, oIx_t, oSl_s, oSl_l, oSl_t, oNe_ln, oEq_ln, Option.bind_some, Option.bind_none, Option.map_some, Option.map_none, List.set_cons_zero, List.set_cons_succ, List.map_cons, List.map_nil, List.replicate_succ, List.replicate_zero, List.cons_append, List.nil_append, List.length_cons, List.length_nil, if_true, if_false, Bool.not_true, Bool.not_false, Bool.false_eq_true, reduceIte, decide_true, decide_false, Bool.true_and, Bool.false_and, Bool.and_true, Bool.and_false, Nat.reduceLeDiff, Nat.reduceAdd, Nat.zero_add, and_self, and_true, true_and, and_false, false_and, h1]
      try simp [h1]
  | _ => simp -implicitDefEqProofs (disch := (first | omega | assumption | (simp only [List.length_append, List.length_map, rangeD_len, List.length_cons, List.length_nil, List.length_range, List.length_reverse]; omega))) only [sVar_0, sVar_1, sVar_2, sVar_3, sVar_4, sVar_5, sVar_6, sVar_7, sVar_8, sVar_9, sVar_10, sVar_11, sVar_12, sVar_13, sVar_14, sVar_15, sVar_16, sVar_17, sVar_18, sVar_19, sVar_20, sVar_21, sVar_22, sVar_23, sVar_24, sVar_25, sVar_26, sVar_27, sVar_28, sVar_29, sVar_30, sVar_31, sVar_32, sVar_33, sVar_34, sC_e, sDct_e, bSortedA_l, bSortedA_t, bSortedA_s, sOp_e, sU_e, sB_b, boolD_b, sAnd_e, sOr_e, sNot_e, sAndV_e, sOrV_e, sNotV_e, sIf_e, sNeg_e, negD_i, sCall_e, sNil_e, sCons_e, sTup_e, sLst_e, sIsi_e, sNoP_e, sPart_e, intD_i, sSl_e, sCup0_e, sCup1_e, sChain_e, sSkip_e, sSeq_e, thenO_nx, thenO_rt, thenO_bk, thenO_ct, sDrop_e, sRet_e, sRetN_e, sIte_e, sSet_e, sSets_e, setAll_nil, setAll_cons, sApp_e, sExt_e, sPut_e, sAug_e, sAugI_e, sPut0_e, sPut1_e, put0_i, put1_i, sFor_e, sItems_e, sRange1_e, range1_i, sRange2_e, sComp_e, tgN_e, wipeE_nil, wipeE_cons, sYes_e, runD_e, outR_rt, outR_nx, env0_t, env0_f, oAdd_i, oAdd_s, oAdd_l, oAdd_t, oAddL_l, oSub_i, oMul_i, oMul_s, oMul_l, oMulL_l, oMul_t, oDiv_i, oMod_i, oLt_i, oLe_i, oLt_s, oLe_s, oGt_i, oGe_i, oEq_i, oNe_i, oEq_s, oNe_s, oIs_n, oIsNot_n, oIs_b, oIn_s, bLen_l, bLen_t, bLen_s, bInt_i, bStr_s, bTuple_l, bTuple_t, bList_l, bList_t, itemsOf_l, itemsOf_t, itemsOf_s, isTy, isNonB, bTupleA_l, bTupleA_t, bTupleA_s, bListA_l, bListA_t, bListA_s, bRev_l, bRev_t, bRev_s, mCount_s, sZip_e, sEnum_e, sComp2_e, sLstR_e, sTupR_e, tgTup2_e, sUnp_e, unpD_2, unpD_3, unpD_4, bAll_2, oIx_s, oIx_l, oIx_t, oSl_s, oSl_l, oSl_t, oNe_ln, oEq_ln, Option.bind_some, Option.bind_none, Option.map_some, Option.map_none, List.set_cons_zero, List.set_cons_succ, List.map_cons, List.map_nil, List.replicate_succ, List.replicate_zero, List.cons_append, List.nil_append, List.length_cons, List.length_nil, if_true, if_false, Bool.not_true, Bool.not_false, Bool.false_eq_true, reduceIte, decide_true, decide_false, Bool.true_and, Bool.false_and, Bool.and_true, Bool.and_false, Nat.reduceLeDiff, Nat.reduceAdd, Nat.zero_add, and_self, and_true, true_and, and_false, false_and, sgB]
def Sg (l : List Nat) : Prop := ∀ n ∈ l, n = 105 ∨ n = 111
theorem Sg.all {l : List Nat} (h : Sg l) : (l.all fun n => decide (n ∈ [105, 111])) = true := by
  rw [List.all_eq_true]
  intro n hn
  rcases h n hn with rfl | rfl <;> decide
theorem signs_ok {c : Cup} {k : Int} (hc : CupOk c) (h0 : 0 ≤ k) (h1 : k ≤ 1000) : ∃ l c', m__law_signs [.int k] c = some (ps l, c') ∧ CupOk c' ∧ (l.length : Int) = k ∧ Sg l := by
  unfold m__law_signs b__law_signs
  simp -implicitDefEqProofs (disch := (first | omega | assumption | (simp only [List.length_append, List.length_map, rangeD_len, List.length_cons, List.length_nil, List.length_range, List.length_reverse]; omega))) only [sVar_0, sVar_1, sVar_2, sVar_3, sVar_4, sVar_5, sVar_6, sVar_7, sVar_8, sVar_9, sVar_10, sVar_11, sVar_12, sVar_13, sVar_14, sVar_15, sVar_16, sVar_17, sVar_18, sVar_19, sVar_20, sVar_21, sVar_22, sVar_23, sVar_24, sVar_25, sVar_26, sVar_27, sVar_28, sVar_29, sVar_30, sVar_31, sVar_32, sVar_33, sVar_34, sC_e, sDct_e, bSortedA_l, bSortedA_t, bSortedA_s, sOp_e, sU_e, sB_b, boolD_b, sAnd_e, sOr_e, sNot_e, sAndV_e, sOrV_e, sNotV_e, sIf_e, sNeg_e, negD_i, sCall_e, sNil_e, sCons_e, sTup_e, sLst_e, sIsi_e, sNoP_e, sPart_e, intD_i, sSl_e, sCup0_e, sCup1_e, sChain_e, sSkip_e, sSeq_e, thenO_nx, thenO_rt, thenO_bk, thenO_ct, sDrop_e, sRet_e, sRetN_e, sIte_e, sSet_e, sSets_e, setAll_nil, setAll_cons, sApp_e, sExt_e, sPut_e, sAug_e, sAugI_e, sPut0_e, sPut1_e, put0_i, put1_i, sFor_e, sItems_e, sRange1_e, range1_i, sRange2_e, sComp_e, tgN_e, wipeE_nil, wipeE_cons, sYes_e, runD_e, outR_rt, outR_nx, env0_t, env0_f, oAdd_i, oAdd_s, oAdd_l, oAdd_t, oAddL_l, oSub_i, oMul_i, oMul_s, oMul_l, oMulL_l, oMul_t, oDiv_i, oMod_i, oLt_i, oLe_i, oLt_s, oLe_s, oGt_i, oGe_i, oEq_i, oNe_i, oEq_s, oNe_s, oIs_n, oIsNot_n, oIs_b, oIn_s, bLen_l, bLen_t, bLen_s, bInt_i, bStr_s, bTuple_l, bTuple_t, bList_l, bList_t, itemsOf_l, itemsOf_t, itemsOf_s, isTy, isNonB, bTupleA_l, bTupleA_t, bTupleA_s, bListA_l, bListA_t, bListA_s, bRev_l, bRev_t, bRev_s, mCount_s, sZip_e, sEnum_e, sComp2_e, sLstR_e, sTupR_e, tgTup2_e, sUnp_e, unpD_2, unpD_3, unpD_4, bAll_2, oIx_s, oIx_l, oIx_t, oSl_s, oSl_l, oSl_t, oNe_ln, oEq_ln, Option.bind_some, Option.bind_none, Option.map_some, Option.map_none, List.set_cons_zero, List.set_cons_succ, List.map_cons, List.map_nil, List.replicate_succ, List.replicate_zero, List.cons_append, List.nil_append, List.length_cons, List.length_nil, if_true, if_false, Bool.not_true, Bool.not_false, Bool.false_eq_true, reduceIte, decide_true, decide_false, Bool.true_and, Bool.false_and, Bool.and_true, Bool.and_false, Nat.reduceLeDiff, Nat.reduceAdd, Nat.zero_add, and_self, and_true, true_and, and_false, false_and, rangeD_len]
  rw [if_pos (by omega)]
  obtain ⟨out, c', h2, h3, h4⟩ := compD_draw (tg := tgN 2) (f := sCall m__law_some (sCons (sC (ps [105, 111])) sNil)) (P := fun _ e => ∃ n, e = ps [n] ∧ (n = 105 ∨ n = 111)) (Γ := [none, some (.int k), none]) (ds := rangeD 0 k.toNat) (fun d _ c hc => by
    obtain ⟨n, c', e, hc', hn⟩ := some_s (l := [105, 111]) hc (by simp) (by simp)
    refine ⟨_, ps [n], c', rfl, ?_, hc', n, rfl, ?_⟩
    · simp -implicitDefEqProofs (disch := (first | omega | assumption | (simp only [List.length_append, List.length_map, rangeD_len, List.length_cons, List.length_nil, List.length_range, List.length_reverse]; omega))) only [sVar_0, sVar_1, sVar_2, sVar_3, sVar_4, sVar_5, sVar_6, sVar_7, sVar_8, sVar_9, sVar_10, sVar_11, sVar_12, sVar_13, sVar_14, sVar_15, sVar_16, sVar_17, sVar_18, sVar_19, sVar_20, sVar_21, sVar_22, sVar_23, sVar_24, sVar_25, sVar_26, sVar_27, sVar_28, sVar_29, sVar_30, sVar_31, sVar_32, sVar_33, sVar_34, sC_e, sDct_e, bSortedA_l, bSortedA_t, bSortedA_s, sOp_e, sU_e, sB_b, boolD_b, sAnd_e, sOr_e, sNot_e, sAndV_e, sOrV_e, sNotV_e, sIf_e, sNeg_e, negD_i, sCall_e, sNil_e, sCons_e, sTup_e, sLst_e, sIsi_e, sNoP_e, sPart_e, intD_i, sSl_e, sCup0_e, sCup1_e, sChain_e, sSkip_e, sSeq_e, thenO_nx, thenO_rt, thenO_bk, thenO_ct, sDrop_e, sRet_e, sRetN_e, sIte_e, sSet_e, sSets_e, setAll_nil, setAll_cons, sApp_e, sExt_e, sPut_e, sAug_e, sAugI_e, sPut0_e, sPut1_e, put0_i, put1_i, sFor_e, sItems_e, sRange1_e, range1_i, sRange2_e, sComp_e, tgN_e, wipeE_nil, wipeE_cons, sYes_e, runD_e, outR_rt, outR_nx, env0_t, env0_f, oAdd_i, oAdd_s, oAdd_l, oAdd_t, oAddL_l, oSub_i, oMul_i, oMul_s, oMul_l, oMulL_l, oMul_t, oDiv_i, oMod_i, oLt_i, oLe_i, oLt_s, oLe_s, oGt_i, oGe_i, oEq_i, oNe_i, oEq_s, oNe_s, oIs_n, oIsNot_n, oIs_b, oIn_s, bLen_l, bLen_t, bLen_s, bInt_i, bStr_s, bTuple_l, bTuple_t, bList_l, bList_t, itemsOf_l, itemsOf_t, itemsOf_s, isTy, isNonB, bTupleA_l, bTupleA_t, bTupleA_s, bListA_l, bListA_t, bListA_s, bRev_l, bRev_t, bRev_s, mCount_s, sZip_e, sEnum_e, sComp2_e, sLstR_e, sTupR_e, tgTup2_e, sUnp_e, unpD_2, unpD_3, unpD_4, bAll_2, oIx_s, oIx_l, oIx_t, oSl_s, oSl_l, oSl_t, oNe_ln, oEq_ln, Option.bind_some, Option.bind_none, Option.map_some, Option.map_none, List.set_cons_zero, List.set_cons_succ, List.map_cons, List.map_nil, List.replicate_succ, List.replicate_zero, List.cons_append, List.nil_append, List.length_cons, List.length_nil, if_true, if_false, Bool.not_true, Bool.not_false, Bool.false_eq_true, reduceIte, decide_true, decide_false, Bool.true_and, Bool.false_and, Bool.and_true, Bool.and_false, Nat.reduceLeDiff, Nat.reduceAdd, Nat.zero_add, and_self, and_true, true_and, and_false, false_and, e]
    · simpa using hn) c hc
  rw [h2]
  have key : ∀ (ds out : List D), Paired (fun _ e => ∃ n, e = ps [n] ∧ (n = 105 ∨ n = 111)) ds out → ∃ l : List Nat, out = l.map (fun n => ps [n]) ∧ l.length = ds.length ∧ Sg l := by
    intro ds out h
    induction h with
    | nil => exact ⟨[], rfl, rfl, fun n hn => by cases hn⟩
    | cons h hh ih =>
      obtain ⟨n, rfl, hn⟩ := h
      obtain ⟨l, rfl, h5, h6⟩ := ih
      refine ⟨n :: l, rfl, by rw [List.length_cons, List.length_cons, h5], fun m hm => ?_⟩
      rcases List.mem_cons.mp hm with rfl | hm
      · exact hn
      · exact h6 m hm
  obtain ⟨l, rfl, h5, h6⟩ := key _ _ h4
  rw [rangeD_len] at h5
  simp -implicitDefEqProofs (disch := (first | omega | assumption | (simp only [List.length_append, List.length_map, rangeD_len, List.length_cons, List.length_nil, List.length_range, List.length_reverse]; omega))) only [sVar_0, sVar_1, sVar_2, sVar_3, sVar_4, sVar_5, sVar_6, sVar_7, sVar_8, sVar_9, sVar_10, sVar_11, sVar_12, sVar_13, sVar_14, sVar_15, sVar_16, sVar_17, sVar_18, sVar_19, sVar_20, sVar_21, sVar_22, sVar_23, sVar_24, sVar_25, sVar_26, sVar_27, sVar_28, sVar_29, sVar_30, sVar_31, sVar_32, sVar_33, sVar_34, sC_e, sDct_e, bSortedA_l, bSortedA_t, bSortedA_s, sOp_e, sU_e, sB_b, boolD_b, sAnd_e, sOr_e, sNot_e, sAndV_e, sOrV_e, sNotV_e, sIf_e, sNeg_e, negD_i, sCall_e, sNil_e, sCons_e, sTup_e, sLst_e, sIsi_e, sNoP_e, sPart_e, intD_i, sSl_e, sCup0_e, sCup1_e, sChain_e, sSkip_e, sSeq_e, thenO_nx, thenO_rt, thenO_bk, thenO_ct, sDrop_e, sRet_e, sRetN_e, sIte_e, sSet_e, sSets_e, setAll_nil, setAll_cons, sApp_e, sExt_e, sPut_e, sAug_e, sAugI_e, sPut0_e, sPut1_e, put0_i, put1_i, sFor_e, sItems_e, sRange1_e, range1_i, sRange2_e, sComp_e, tgN_e, wipeE_nil, wipeE_cons, sYes_e, runD_e, outR_rt, outR_nx, env0_t, env0_f, oAdd_i, oAdd_s, oAdd_l, oAdd_t, oAddL_l, oSub_i, oMul_i, oMul_s, oMul_l, oMulL_l, oMul_t, oDiv_i, oMod_i, oLt_i, oLe_i, oLt_s, oLe_s, oGt_i, oGe_i, oEq_i, oNe_i, oEq_s, oNe_s, oIs_n, oIsNot_n, oIs_b, oIn_s, bLen_l, bLen_t, bLen_s, bInt_i, bStr_s, bTuple_l, bTuple_t, bList_l, bList_t, itemsOf_l, itemsOf_t, itemsOf_s, isTy, isNonB, bTupleA_l, bTupleA_t, bTupleA_s, bListA_l, bListA_t, bListA_s, bRev_l, bRev_t, bRev_s, mCount_s, sZip_e, sEnum_e, sComp2_e, sLstR_e, sTupR_e, tgTup2_e, sUnp_e, unpD_2, unpD_3, unpD_4, bAll_2, oIx_s, oIx_l, oIx_t, oSl_s, oSl_l, oSl_t, oNe_ln, oEq_ln, Option.bind_some, Option.bind_none, Option.map_some, Option.map_none, List.set_cons_zero, List.set_cons_succ, List.map_cons, List.map_nil, List.replicate_succ, List.replicate_zero, List.cons_append, List.nil_append, List.length_cons, List.length_nil, if_true, if_false, Bool.not_true, Bool.not_false, Bool.false_eq_true, reduceIte, decide_true, decide_false, Bool.true_and, Bool.false_and, Bool.and_true, Bool.and_false, Nat.reduceLeDiff, Nat.reduceAdd, Nat.zero_add, and_self, and_true, true_and, and_false, false_and, mJoin_ones (l := l) (by omega)]
  exact ⟨l, c', rfl, h3, by omega, h6⟩
theorem fits_word_d {d : D} {c : Cup} : m_fits_word [d] c = some (.bool (sgB 1 12 d), c) := by
  unfold m_fits_word b_fits_word
  simp -implicitDefEqProofs (disch := (first | omega | assumption | (simp only [List.length_append, List.length_map, rangeD_len, List.length_cons, List.length_nil, List.length_range, List.length_reverse]; omega))) only [sVar_0, sVar_1, sVar_2, sVar_3, sVar_4, sVar_5, sVar_6, sVar_7, sVar_8, sVar_9, sVar_10, sVar_11, sVar_12, sVar_13, sVar_14, sVar_15, sVar_16, sVar_17, sVar_18, sVar_19, sVar_20, sVar_21, sVar_22, sVar_23, sVar_24, sVar_25, sVar_26, sVar_27, sVar_28, sVar_29, sVar_30, sVar_31, sVar_32, sVar_33, sVar_34, sC_e, sDct_e, bSortedA_l, bSortedA_t, bSortedA_s, sOp_e, sU_e, sB_b, boolD_b, sAnd_e, sOr_e, sNot_e, sAndV_e, sOrV_e, sNotV_e, sIf_e, sNeg_e, negD_i, sCall_e, sNil_e, sCons_e, sTup_e, sLst_e, sIsi_e, sNoP_e, sPart_e, intD_i, sSl_e, sCup0_e, sCup1_e, sChain_e, sSkip_e, sSeq_e, thenO_nx, thenO_rt, thenO_bk, thenO_ct, sDrop_e, sRet_e, sRetN_e, sIte_e, sSet_e, sSets_e, setAll_nil, setAll_cons, sApp_e, sExt_e, sPut_e, sAug_e, sAugI_e, sPut0_e, sPut1_e, put0_i, put1_i, sFor_e, sItems_e, sRange1_e, range1_i, sRange2_e, sComp_e, tgN_e, wipeE_nil, wipeE_cons, sYes_e, runD_e, outR_rt, outR_nx, env0_t, env0_f, oAdd_i, oAdd_s, oAdd_l, oAdd_t, oAddL_l, oSub_i, oMul_i, oMul_s, oMul_l, oMulL_l, oMul_t, oDiv_i, oMod_i, oLt_i, oLe_i, oLt_s, oLe_s, oGt_i, oGe_i, oEq_i, oNe_i, oEq_s, oNe_s, oIs_n, oIsNot_n, oIs_b, oIn_s, bLen_l, bLen_t, bLen_s, bInt_i, bStr_s, bTuple_l, bTuple_t, bList_l, bList_t, itemsOf_l, itemsOf_t, itemsOf_s, isTy, isNonB, bTupleA_l, bTupleA_t, bTupleA_s, bListA_l, bListA_t, bListA_s, bRev_l, bRev_t, bRev_s, mCount_s, sZip_e, sEnum_e, sComp2_e, sLstR_e, sTupR_e, tgTup2_e, sUnp_e, unpD_2, unpD_3, unpD_4, bAll_2, oIx_s, oIx_l, oIx_t, oSl_s, oSl_l, oSl_t, oNe_ln, oEq_ln, Option.bind_some, Option.bind_none, Option.map_some, Option.map_none, List.set_cons_zero, List.set_cons_succ, List.map_cons, List.map_nil, List.replicate_succ, List.replicate_zero, List.cons_append, List.nil_append, List.length_cons, List.length_nil, if_true, if_false, Bool.not_true, Bool.not_false, Bool.false_eq_true, reduceIte, decide_true, decide_false, Bool.true_and, Bool.false_and, Bool.and_true, Bool.and_false, Nat.reduceLeDiff, Nat.reduceAdd, Nat.zero_add, and_self, and_true, true_and, and_false, false_and, fits_signs_d]
def gone (w : List Nat) (n s : Nat) : List Nat := (List.range n).map fun i => w.getD ((s + i) % w.length) 0
theorem gone_len (w : List Nat) (n s : Nat) : (gone w n s).length = n := by unfold gone; rw [List.length_map, List.length_range]
theorem gone_succ (w : List Nat) (n s : Nat) : gone w (n + 1) s = gone w n s ++ [w.getD ((s + n) % w.length) 0] := by
  unfold gone
  rw [List.range_succ, List.map_append]
  rfl
theorem gone_sg {w : List Nat} {n s : Nat} (hw : 1 ≤ w.length) (h : Sg w) : Sg (gone w n s) := by
  intro x hx
  obtain ⟨i, _, rfl⟩ := List.mem_map.mp hx
  have hl : (s + i) % w.length < w.length := Nat.mod_lt _ (by omega)
  have := getD_in (x := 0) hl
  exact h _ (List.mem_of_getElem? this)
theorem law_wound_t {w : List Nat} {n s : Nat} {c : Cup} (hw : 1 ≤ w.length) (hn : n ≤ 1000) (hs : s < w.length) : m__law_wound [ps w, .int n, .int s] c = some (ps (gone w n s), c) := by
  unfold m__law_wound b__law_wound
  simp -implicitDefEqProofs (disch := (first | omega | assumption | (simp only [List.length_append, List.length_map, rangeD_len, List.length_cons, List.length_nil, List.length_range, List.length_reverse]; omega))) only [sVar_0, sVar_1, sVar_2, sVar_3, sVar_4, sVar_5, sVar_6, sVar_7, sVar_8, sVar_9, sVar_10, sVar_11, sVar_12, sVar_13, sVar_14, sVar_15, sVar_16, sVar_17, sVar_18, sVar_19, sVar_20, sVar_21, sVar_22, sVar_23, sVar_24, sVar_25, sVar_26, sVar_27, sVar_28, sVar_29, sVar_30, sVar_31, sVar_32, sVar_33, sVar_34, sC_e, sDct_e, bSortedA_l, bSortedA_t, bSortedA_s, sOp_e, sU_e, sB_b, boolD_b, sAnd_e, sOr_e, sNot_e, sAndV_e, sOrV_e, sNotV_e, sIf_e, sNeg_e, negD_i, sCall_e, sNil_e, sCons_e, sTup_e, sLst_e, sIsi_e, sNoP_e, sPart_e, intD_i, sSl_e, sCup0_e, sCup1_e, sChain_e, sSkip_e, sSeq_e, thenO_nx, thenO_rt, thenO_bk, thenO_ct, sDrop_e, sRet_e, sRetN_e, sIte_e, sSet_e, sSets_e, setAll_nil, setAll_cons, sApp_e, sExt_e, sPut_e, sAug_e, sAugI_e, sPut0_e, sPut1_e, put0_i, put1_i, sFor_e, sItems_e, sRange1_e, range1_i, sRange2_e, sComp_e, tgN_e, wipeE_nil, wipeE_cons, sYes_e, runD_e, outR_rt, outR_nx, env0_t, env0_f, oAdd_i, oAdd_s, oAdd_l, oAdd_t, oAddL_l, oSub_i, oMul_i, oMul_s, oMul_l, oMulL_l, oMul_t, oDiv_i, oMod_i, oLt_i, oLe_i, oLt_s, oLe_s, oGt_i, oGe_i, oEq_i, oNe_i, oEq_s, oNe_s, oIs_n, oIsNot_n, oIs_b, oIn_s, bLen_l, bLen_t, bLen_s, bInt_i, bStr_s, bTuple_l, bTuple_t, bList_l, bList_t, itemsOf_l, itemsOf_t, itemsOf_s, isTy, isNonB, bTupleA_l, bTupleA_t, bTupleA_s, bListA_l, bListA_t, bListA_s, bRev_l, bRev_t, bRev_s, mCount_s, sZip_e, sEnum_e, sComp2_e, sLstR_e, sTupR_e, tgTup2_e, sUnp_e, unpD_2, unpD_3, unpD_4, bAll_2, oIx_s, oIx_l, oIx_t, oSl_s, oSl_l, oSl_t, oNe_ln, oEq_ln, Option.bind_some, Option.bind_none, Option.map_some, Option.map_none, List.set_cons_zero, List.set_cons_succ, List.map_cons, List.map_nil, List.replicate_succ, List.replicate_zero, List.cons_append, List.nil_append, List.length_cons, List.length_nil, if_true, if_false, Bool.not_true, Bool.not_false, Bool.false_eq_true, reduceIte, decide_true, decide_false, Bool.true_and, Bool.false_and, Bool.and_true, Bool.and_false, Nat.reduceLeDiff, Nat.reduceAdd, Nat.zero_add, and_self, and_true, true_and, and_false, false_and, Int.toNat_natCast]
  obtain ⟨Γ2, c2, h1, rfl, y, rfl⟩ := forD_range (tg := tgN 5) (lo := 0) (n := n) (b := b__law_wound_1) (c := c)
    (fun i Γ c' => c' = c ∧ ∃ y, Γ = [some (ps w), some (.int n), some (.int s), some (ps (gone w i s)), some (.int (((s + i) % w.length : Nat) : Int)), y])
    (fun i Γ c' hi ⟨hc, y, hΓ⟩ => by
      subst hΓ hc
      have hlt : (s + i) % w.length < w.length := Nat.mod_lt _ (by omega)
      have e1 : atI w (((s + i) % w.length : Nat) : Int) = some (w.getD ((s + i) % w.length) 0) := by
        rw [atI_lt (by omega) (by omega), Int.toNat_natCast, getD_in (x := 0) hlt]
      have e2 : oAdd (ps (gone w i s)) (ps [w.getD ((s + i) % w.length) 0]) = some (ps (gone w i s ++ [w.getD ((s + i) % w.length) 0])) := oAdd_s (by rw [gone_len, List.length_singleton]; omega)
      have e3 : (s + (i + 1)) % w.length = if (s + i) % w.length + 1 < w.length then (s + i) % w.length + 1 else 0 := by
        rw [← Nat.add_assoc, Nat.add_mod (s + i) 1]
        by_cases h : (s + i) % w.length + 1 < w.length
        · rw [if_pos h, Nat.mod_eq_of_lt (a := 1) (by omega), Nat.mod_eq_of_lt h]
        · rw [if_neg h]
          by_cases h1 : w.length = 1
          · rw [h1]; omega
          · rw [Nat.mod_eq_of_lt (a := 1) (by omega), show (s + i) % w.length + 1 = w.length by omega, Nat.mod_self]
      refine ⟨_, [some (ps w), some (.int n), some (.int s), some (ps (gone w (i + 1) s)), some (.int (((s + (i + 1)) % w.length : Nat) : Int)), some (.int (0 + (i : Int)))], c', rfl, .inl ?_, rfl, _, rfl⟩
      rw [gone_succ, e3]
      generalize (s + i) % w.length = k at *
      by_cases h : k + 1 < w.length
      · have h' : (k : Int) + 1 < (w.length : Int) := by omega
        rw [if_pos h]
        simp -implicitDefEqProofs (disch := (first | omega | assumption | (simp only [List.length_append, List.length_map, rangeD_len, List.length_cons, List.length_nil, List.length_range, List.length_reverse]; omega))) only [sVar_0, sVar_1, sVar_2, sVar_3, sVar_4, sVar_5, sVar_6, sVar_7, sVar_8, sVar_9, sVar_10, sVar_11, sVar_12, sVar_13, sVar_14, sVar_15, sVar_16, sVar_17, sVar_18, sVar_19, sVar_20, sVar_21, sVar_22, sVar_23, sVar_24, sVar_25, sVar_26, sVar_27, sVar_28, sVar_29, sVar_30, sVar_31, sVar_32, sVar_33, sVar_34, sC_e, sDct_e, bSortedA_l, bSortedA_t, bSortedA_s, sOp_e, sU_e, sB_b, boolD_b, sAnd_e, sOr_e, sNot_e, sAndV_e, sOrV_e, sNotV_e, sIf_e, sNeg_e, negD_i, sCall_e, sNil_e, sCons_e, sTup_e, sLst_e, sIsi_e, sNoP_e, sPart_e, intD_i, sSl_e, sCup0_e, sCup1_e, sChain_e, sSkip_e, sSeq_e, thenO_nx, thenO_rt, thenO_bk, thenO_ct, sDrop_e, sRet_e, sRetN_e, sIte_e, sSet_e, sSets_e, setAll_nil, setAll_cons, sApp_e, sExt_e, sPut_e, sAug_e, sAugI_e, sPut0_e, sPut1_e, put0_i, put1_i, sFor_e, sItems_e, sRange1_e, range1_i, sRange2_e, sComp_e, tgN_e, wipeE_nil, wipeE_cons, sYes_e, runD_e, outR_rt, outR_nx, env0_t, env0_f, oAdd_i, oAdd_s, oAdd_l, oAdd_t, oAddL_l, oSub_i, oMul_i, oMul_s, oMul_l, oMulL_l, oMul_t, oDiv_i, oMod_i, oLt_i, oLe_i, oLt_s, oLe_s, oGt_i, oGe_i, oEq_i, oNe_i, oEq_s, oNe_s, oIs_n, oIsNot_n, oIs_b, oIn_s, bLen_l, bLen_t, bLen_s, bInt_i, bStr_s, bTuple_l, bTuple_t, bList_l, bList_t, itemsOf_l, itemsOf_t, itemsOf_s, isTy, isNonB, bTupleA_l, bTupleA_t, bTupleA_s, bListA_l, bListA_t, bListA_s, bRev_l, bRev_t, bRev_s, mCount_s, sZip_e, sEnum_e, sComp2_e, sLstR_e, sTupR_e, tgTup2_e, sUnp_e, unpD_2, unpD_3, unpD_4, bAll_2, oIx_s, oIx_l, oIx_t, oSl_s, oSl_l, oSl_t, oNe_ln, oEq_ln, Option.bind_some, Option.bind_none, Option.map_some, Option.map_none, List.set_cons_zero, List.set_cons_succ, List.map_cons, List.map_nil, List.replicate_succ, List.replicate_zero, List.cons_append, List.nil_append, List.length_cons, List.length_nil, if_true, if_false, Bool.not_true, Bool.not_false, Bool.false_eq_true, reduceIte, decide_true, decide_false, Bool.true_and, Bool.false_and, Bool.and_true, Bool.and_false, Nat.reduceLeDiff, Nat.reduceAdd, Nat.zero_add, and_self, and_true, true_and, and_false, false_and, e1, e2, h']
        rfl
      · have h' : ¬ (k : Int) + 1 < (w.length : Int) := by omega
        rw [if_neg h]
        simp -implicitDefEqProofs (disch := (first | omega | assumption | (simp only [List.length_append, List.length_map, rangeD_len, List.length_cons, List.length_nil, List.length_range, List.length_reverse]; omega))) only [sVar_0, sVar_1, sVar_2, sVar_3, sVar_4, sVar_5, sVar_6, sVar_7, sVar_8, sVar_9, sVar_10, sVar_11, sVar_12, sVar_13, sVar_14, sVar_15, sVar_16, sVar_17, sVar_18, sVar_19, sVar_20, sVar_21, sVar_22, sVar_23, sVar_24, sVar_25, sVar_26, sVar_27, sVar_28, sVar_29, sVar_30, sVar_31, sVar_32, sVar_33, sVar_34, sC_e, sDct_e, bSortedA_l, bSortedA_t, bSortedA_s, sOp_e, sU_e, sB_b, boolD_b, sAnd_e, sOr_e, sNot_e, sAndV_e, sOrV_e, sNotV_e, sIf_e, sNeg_e, negD_i, sCall_e, sNil_e, sCons_e, sTup_e, sLst_e, sIsi_e, sNoP_e, sPart_e, intD_i, sSl_e, sCup0_e, sCup1_e, sChain_e, sSkip_e, sSeq_e, thenO_nx, thenO_rt, thenO_bk, thenO_ct, sDrop_e, sRet_e, sRetN_e, sIte_e, sSet_e, sSets_e, setAll_nil, setAll_cons, sApp_e, sExt_e, sPut_e, sAug_e, sAugI_e, sPut0_e, sPut1_e, put0_i, put1_i, sFor_e, sItems_e, sRange1_e, range1_i, sRange2_e, sComp_e, tgN_e, wipeE_nil, wipeE_cons, sYes_e, runD_e, outR_rt, outR_nx, env0_t, env0_f, oAdd_i, oAdd_s, oAdd_l, oAdd_t, oAddL_l, oSub_i, oMul_i, oMul_s, oMul_l, oMulL_l, oMul_t, oDiv_i, oMod_i, oLt_i, oLe_i, oLt_s, oLe_s, oGt_i, oGe_i, oEq_i, oNe_i, oEq_s, oNe_s, oIs_n, oIsNot_n, oIs_b, oIn_s, bLen_l, bLen_t, bLen_s, bInt_i, bStr_s, bTuple_l, bTuple_t, bList_l, bList_t, itemsOf_l, itemsOf_t, itemsOf_s, isTy, isNonB, bTupleA_l, bTupleA_t, bTupleA_s, bListA_l, bListA_t, bListA_s, bRev_l, bRev_t, bRev_s, mCount_s, sZip_e, sEnum_e, sComp2_e, sLstR_e, sTupR_e, tgTup2_e, sUnp_e, unpD_2, unpD_3, unpD_4, bAll_2, oIx_s, oIx_l, oIx_t, oSl_s, oSl_l, oSl_t, oNe_ln, oEq_ln, Option.bind_some, Option.bind_none, Option.map_some, Option.map_none, List.set_cons_zero, List.set_cons_succ, List.map_cons, List.map_nil, List.replicate_succ, List.replicate_zero, List.cons_append, List.nil_append, List.length_cons, List.length_nil, if_true, if_false, Bool.not_true, Bool.not_false, Bool.false_eq_true, reduceIte, decide_true, decide_false, Bool.true_and, Bool.false_and, Bool.and_true, Bool.and_false, Nat.reduceLeDiff, Nat.reduceAdd, Nat.zero_add, and_self, and_true, true_and, and_false, false_and, e1, e2, h']
        rfl) (Γ := [some (ps w), some (.int n), some (.int s), some (ps []), some (.int s), none]) ⟨rfl, none, by rw [Nat.add_zero, Nat.mod_eq_of_lt hs]; rfl⟩
  rw [h1]
  simp -implicitDefEqProofs (disch := (first | omega | assumption | (simp only [List.length_append, List.length_map, rangeD_len, List.length_cons, List.length_nil, List.length_range, List.length_reverse]; omega))) only [sVar_0, sVar_1, sVar_2, sVar_3, sVar_4, sVar_5, sVar_6, sVar_7, sVar_8, sVar_9, sVar_10, sVar_11, sVar_12, sVar_13, sVar_14, sVar_15, sVar_16, sVar_17, sVar_18, sVar_19, sVar_20, sVar_21, sVar_22, sVar_23, sVar_24, sVar_25, sVar_26, sVar_27, sVar_28, sVar_29, sVar_30, sVar_31, sVar_32, sVar_33, sVar_34, sC_e, sDct_e, bSortedA_l, bSortedA_t, bSortedA_s, sOp_e, sU_e, sB_b, boolD_b, sAnd_e, sOr_e, sNot_e, sAndV_e, sOrV_e, sNotV_e, sIf_e, sNeg_e, negD_i, sCall_e, sNil_e, sCons_e, sTup_e, sLst_e, sIsi_e, sNoP_e, sPart_e, intD_i, sSl_e, sCup0_e, sCup1_e, sChain_e, sSkip_e, sSeq_e, thenO_nx, thenO_rt, thenO_bk, thenO_ct, sDrop_e, sRet_e, sRetN_e, sIte_e, sSet_e, sSets_e, setAll_nil, setAll_cons, sApp_e, sExt_e, sPut_e, sAug_e, sAugI_e, sPut0_e, sPut1_e, put0_i, put1_i, sFor_e, sItems_e, sRange1_e, range1_i, sRange2_e, sComp_e, tgN_e, wipeE_nil, wipeE_cons, sYes_e, runD_e, outR_rt, outR_nx, env0_t, env0_f, oAdd_i, oAdd_s, oAdd_l, oAdd_t, oAddL_l, oSub_i, oMul_i, oMul_s, oMul_l, oMulL_l, oMul_t, oDiv_i, oMod_i, oLt_i, oLe_i, oLt_s, oLe_s, oGt_i, oGe_i, oEq_i, oNe_i, oEq_s, oNe_s, oIs_n, oIsNot_n, oIs_b, oIn_s, bLen_l, bLen_t, bLen_s, bInt_i, bStr_s, bTuple_l, bTuple_t, bList_l, bList_t, itemsOf_l, itemsOf_t, itemsOf_s, isTy, isNonB, bTupleA_l, bTupleA_t, bTupleA_s, bListA_l, bListA_t, bListA_s, bRev_l, bRev_t, bRev_s, mCount_s, sZip_e, sEnum_e, sComp2_e, sLstR_e, sTupR_e, tgTup2_e, sUnp_e, unpD_2, unpD_3, unpD_4, bAll_2, oIx_s, oIx_l, oIx_t, oSl_s, oSl_l, oSl_t, oNe_ln, oEq_ln, Option.bind_some, Option.bind_none, Option.map_some, Option.map_none, List.set_cons_zero, List.set_cons_succ, List.map_cons, List.map_nil, List.replicate_succ, List.replicate_zero, List.cons_append, List.nil_append, List.length_cons, List.length_nil, if_true, if_false, Bool.not_true, Bool.not_false, Bool.false_eq_true, reduceIte, decide_true, decide_false, Bool.true_and, Bool.false_and, Bool.and_true, Bool.and_false, Nat.reduceLeDiff, Nat.reduceAdd, Nat.zero_add, and_self, and_true, true_and, and_false, false_and]
structure Word (w : List Nat) : Prop where
  lo : 1 ≤ w.length
  hi : w.length ≤ 12
  sg : Sg w
theorem Word.b {w : List Nat} (W : Word w) : sgB 1 12 (ps w) = true := by
  have h1 := W.lo
  have h2 := W.hi
  rw [sgB_s, W.sg.all, decide_eq_true]
  · rfl
  · omega
theorem need_word_w {w : List Nat} {c : Cup} (W : Word w) : m_need_word [ps w] c = some (.none, c) := by
  unfold m_need_word b_need_word
  simp -implicitDefEqProofs (disch := (first | omega | assumption | (simp only [List.length_append, List.length_map, rangeD_len, List.length_cons, List.length_nil, List.length_range, List.length_reverse]; omega))) only [sVar_0, sVar_1, sVar_2, sVar_3, sVar_4, sVar_5, sVar_6, sVar_7, sVar_8, sVar_9, sVar_10, sVar_11, sVar_12, sVar_13, sVar_14, sVar_15, sVar_16, sVar_17, sVar_18, sVar_19, sVar_20, sVar_21, sVar_22, sVar_23, sVar_24, sVar_25, sVar_26, sVar_27, sVar_28, sVar_29, sVar_30, sVar_31, sVar_32, sVar_33, sVar_34, sC_e, sDct_e, bSortedA_l, bSortedA_t, bSortedA_s, sOp_e, sU_e, sB_b, boolD_b, sAnd_e, sOr_e, sNot_e, sAndV_e, sOrV_e, sNotV_e, sIf_e, sNeg_e, negD_i, sCall_e, sNil_e, sCons_e, sTup_e, sLst_e, sIsi_e, sNoP_e, sPart_e, intD_i, sSl_e, sCup0_e, sCup1_e, sChain_e, sSkip_e, sSeq_e, thenO_nx, thenO_rt, thenO_bk, thenO_ct, sDrop_e, sRet_e, sRetN_e, sIte_e, sSet_e, sSets_e, setAll_nil, setAll_cons, sApp_e, sExt_e, sPut_e, sAug_e, sAugI_e, sPut0_e, sPut1_e, put0_i, put1_i, sFor_e, sItems_e, sRange1_e, range1_i, sRange2_e, sComp_e, tgN_e, wipeE_nil, wipeE_cons, sYes_e, runD_e, outR_rt, outR_nx, env0_t, env0_f, oAdd_i, oAdd_s, oAdd_l, oAdd_t, oAddL_l, oSub_i, oMul_i, oMul_s, oMul_l, oMulL_l, oMul_t, oDiv_i, oMod_i, oLt_i, oLe_i, oLt_s, oLe_s, oGt_i, oGe_i, oEq_i, oNe_i, oEq_s, oNe_s, oIs_n, oIsNot_n, oIs_b, oIn_s, bLen_l, bLen_t, bLen_s, bInt_i, bStr_s, bTuple_l, bTuple_t, bList_l, bList_t, itemsOf_l, itemsOf_t, itemsOf_s, isTy, isNonB, bTupleA_l, bTupleA_t, bTupleA_s, bListA_l, bListA_t, bListA_s, bRev_l, bRev_t, bRev_s, mCount_s, sZip_e, sEnum_e, sComp2_e, sLstR_e, sTupR_e, tgTup2_e, sUnp_e, unpD_2, unpD_3, unpD_4, bAll_2, oIx_s, oIx_l, oIx_t, oSl_s, oSl_l, oSl_t, oNe_ln, oEq_ln, Option.bind_some, Option.bind_none, Option.map_some, Option.map_none, List.set_cons_zero, List.set_cons_succ, List.map_cons, List.map_nil, List.replicate_succ, List.replicate_zero, List.cons_append, List.nil_append, List.length_cons, List.length_nil, if_true, if_false, Bool.not_true, Bool.not_false, Bool.false_eq_true, reduceIte, decide_true, decide_false, Bool.true_and, Bool.false_and, Bool.and_true, Bool.and_false, Nat.reduceLeDiff, Nat.reduceAdd, Nat.zero_add, and_self, and_true, true_and, and_false, false_and, fits_word_d, W.b]
theorem fits_whole_i {i lo hi : Int} {c : Cup} (h0 : lo ≤ i) (h1 : i ≤ hi) : m_fits_whole [.int i, .int lo, .int hi] c = some (.bool true, c) := by
  unfold m_fits_whole b_fits_whole
  have e : ∀ c, m_is_whole [.int i] c = some (.bool true, c) := fun c => by
    unfold m_is_whole b_is_whole
    simp -implicitDefEqProofs (disch := (first | omega | assumption | (simp only [List.length_append, List.length_map, rangeD_len, List.length_cons, List.length_nil, List.length_range, List.length_reverse]; omega))) only [sVar_0, sVar_1, sVar_2, sVar_3, sVar_4, sVar_5, sVar_6, sVar_7, sVar_8, sVar_9, sVar_10, sVar_11, sVar_12, sVar_13, sVar_14, sVar_15, sVar_16, sVar_17, sVar_18, sVar_19, sVar_20, sVar_21, sVar_22, sVar_23, sVar_24, sVar_25, sVar_26, sVar_27, sVar_28, sVar_29, sVar_30, sVar_31, sVar_32, sVar_33, sVar_34, sC_e, sDct_e, bSortedA_l, bSortedA_t, bSortedA_s, sOp_e, sU_e, sB_b, boolD_b, sAnd_e, sOr_e, sNot_e, sAndV_e, sOrV_e, sNotV_e, sIf_e, sNeg_e, negD_i, sCall_e, sNil_e, sCons_e, sTup_e, sLst_e, sIsi_e, sNoP_e, sPart_e, intD_i, sSl_e, sCup0_e, sCup1_e, sChain_e, sSkip_e, sSeq_e, thenO_nx, thenO_rt, thenO_bk, thenO_ct, sDrop_e, sRet_e, sRetN_e, sIte_e, sSet_e, sSets_e, setAll_nil, setAll_cons, sApp_e, sExt_e, sPut_e, sAug_e, sAugI_e, sPut0_e, sPut1_e, put0_i, put1_i, sFor_e, sItems_e, sRange1_e, range1_i, sRange2_e, sComp_e, tgN_e, wipeE_nil, wipeE_cons, sYes_e, runD_e, outR_rt, outR_nx, env0_t, env0_f, oAdd_i, oAdd_s, oAdd_l, oAdd_t, oAddL_l, oSub_i, oMul_i, oMul_s, oMul_l, oMulL_l, oMul_t, oDiv_i, oMod_i, oLt_i, oLe_i, oLt_s, oLe_s, oGt_i, oGe_i, oEq_i, oNe_i, oEq_s, oNe_s, oIs_n, oIsNot_n, oIs_b, oIn_s, bLen_l, bLen_t, bLen_s, bInt_i, bStr_s, bTuple_l, bTuple_t, bList_l, bList_t, itemsOf_l, itemsOf_t, itemsOf_s, isTy, isNonB, bTupleA_l, bTupleA_t, bTupleA_s, bListA_l, bListA_t, bListA_s, bRev_l, bRev_t, bRev_s, mCount_s, sZip_e, sEnum_e, sComp2_e, sLstR_e, sTupR_e, tgTup2_e, sUnp_e, unpD_2, unpD_3, unpD_4, bAll_2, oIx_s, oIx_l, oIx_t, oSl_s, oSl_l, oSl_t, oNe_ln, oEq_ln, Option.bind_some, Option.bind_none, Option.map_some, Option.map_none, List.set_cons_zero, List.set_cons_succ, List.map_cons, List.map_nil, List.replicate_succ, List.replicate_zero, List.cons_append, List.nil_append, List.length_cons, List.length_nil, if_true, if_false, Bool.not_true, Bool.not_false, Bool.false_eq_true, reduceIte, decide_true, decide_false, Bool.true_and, Bool.false_and, Bool.and_true, Bool.and_false, Nat.reduceLeDiff, Nat.reduceAdd, Nat.zero_add, and_self, and_true, true_and, and_false, false_and]
  simp -implicitDefEqProofs (disch := (first | omega | assumption | (simp only [List.length_append, List.length_map, rangeD_len, List.length_cons, List.length_nil, List.length_range, List.length_reverse]; omega))) only [sVar_0, sVar_1, sVar_2, sVar_3, sVar_4, sVar_5, sVar_6, sVar_7, sVar_8, sVar_9, sVar_10, sVar_11, sVar_12, sVar_13, sVar_14, sVar_15, sVar_16, sVar_17, sVar_18, sVar_19, sVar_20, sVar_21, sVar_22, sVar_23, sVar_24, sVar_25, sVar_26, sVar_27, sVar_28, sVar_29, sVar_30, sVar_31, sVar_32, sVar_33, sVar_34, sC_e, sDct_e, bSortedA_l, bSortedA_t, bSortedA_s, sOp_e, sU_e, sB_b, boolD_b, sAnd_e, sOr_e, sNot_e, sAndV_e, sOrV_e, sNotV_e, sIf_e, sNeg_e, negD_i, sCall_e, sNil_e, sCons_e, sTup_e, sLst_e, sIsi_e, sNoP_e, sPart_e, intD_i, sSl_e, sCup0_e, sCup1_e, sChain_e, sSkip_e, sSeq_e, thenO_nx, thenO_rt, thenO_bk, thenO_ct, sDrop_e, sRet_e, sRetN_e, sIte_e, sSet_e, sSets_e, setAll_nil, setAll_cons, sApp_e, sExt_e, sPut_e, sAug_e, sAugI_e, sPut0_e, sPut1_e, put0_i, put1_i, sFor_e, sItems_e, sRange1_e, range1_i, sRange2_e, sComp_e, tgN_e, wipeE_nil, wipeE_cons, sYes_e, runD_e, outR_rt, outR_nx, env0_t, env0_f, oAdd_i, oAdd_s, oAdd_l, oAdd_t, oAddL_l, oSub_i, oMul_i, oMul_s, oMul_l, oMulL_l, oMul_t, oDiv_i, oMod_i, oLt_i, oLe_i, oLt_s, oLe_s, oGt_i, oGe_i, oEq_i, oNe_i, oEq_s, oNe_s, oIs_n, oIsNot_n, oIs_b, oIn_s, bLen_l, bLen_t, bLen_s, bInt_i, bStr_s, bTuple_l, bTuple_t, bList_l, bList_t, itemsOf_l, itemsOf_t, itemsOf_s, isTy, isNonB, bTupleA_l, bTupleA_t, bTupleA_s, bListA_l, bListA_t, bListA_s, bRev_l, bRev_t, bRev_s, mCount_s, sZip_e, sEnum_e, sComp2_e, sLstR_e, sTupR_e, tgTup2_e, sUnp_e, unpD_2, unpD_3, unpD_4, bAll_2, oIx_s, oIx_l, oIx_t, oSl_s, oSl_l, oSl_t, oNe_ln, oEq_ln, Option.bind_some, Option.bind_none, Option.map_some, Option.map_none, List.set_cons_zero, List.set_cons_succ, List.map_cons, List.map_nil, List.replicate_succ, List.replicate_zero, List.cons_append, List.nil_append, List.length_cons, List.length_nil, if_true, if_false, Bool.not_true, Bool.not_false, Bool.false_eq_true, reduceIte, decide_true, decide_false, Bool.true_and, Bool.false_and, Bool.and_true, Bool.and_false, Nat.reduceLeDiff, Nat.reduceAdd, Nat.zero_add, and_self, and_true, true_and, and_false, false_and, e, h0, h1]
theorem next_if {n j : Nat} (hj : j < n) : (if j + 1 < n then j + 1 else 0) = (j + 1) % n := by
  by_cases h : j + 1 < n
  · rw [if_pos h, Nat.mod_eq_of_lt h]
  · rw [if_neg h, show j + 1 = n by omega, Nat.mod_self]
theorem same_pair {a b : D} {c : Cup} (h1 : SameOk 7 a) (h2 : SameOk 7 b) : m__law_same 8 [.tuple [a, b], .tuple [a, b]] c = some (.bool true, c) :=
  same_ok 8 (.tuple [a, b]) ⟨by simp, fun d hd => by
    rcases List.mem_cons.mp hd with rfl | hd
    · exact h1
    · cases List.mem_singleton.mp hd
      exact h2⟩ c
def fz (w : List Nat) (i : Nat) : Nat := w.getD (i % w.length) 0
theorem gone_fz {w : List Nat} {n : Nat} : gone w n 0 = (List.range n).map (fz w) := by
  unfold gone fz
  exact List.map_congr_left fun i _ => by rw [Nat.zero_add]
theorem map_range_eq {n : Nat} {f g : Nat → Nat} : (List.range n).map f = (List.range n).map g ↔ ∀ i < n, f i = g i := by
  rw [List.map_inj_left]
  exact ⟨fun h i hi => h i (List.mem_range.mpr hi), fun h i hi => h i (List.mem_range.mp hi)⟩
def Per (w : List Nat) (p : Nat) : Prop := ∀ i, fz w (i + p) = fz w i
theorem per_len (w : List Nat) : Per w w.length := fun i => by unfold fz; rw [Nat.add_mod_right]
theorem Per.mul {w : List Nat} {p : Nat} (h : Per w p) : ∀ k, Per w (k * p)
  | 0, i => by rw [Nat.zero_mul, Nat.add_zero]
  | k + 1, i => by rw [Nat.succ_mul, ← Nat.add_assoc, h, h.mul k]
def upto (n : Nat) : List Nat := (List.range n).map fun i => i + 1
theorem upto_range (n : Nat) : rangeD 1 n = (upto n).map nD := by
  unfold rangeD upto
  rw [List.map_map]
  exact List.map_congr_left fun i _ => congrArg PyData.int (by show (1 : Int) + (i : Nat) = ((i + 1 : Nat) : Int); omega)
theorem find_upto {n s : Nat} {p : Nat → Bool} (h : (upto n).find? p = some s) : p s = true ∧ 1 ≤ s ∧ s ≤ n ∧ ∀ j, 1 ≤ j → j < s → p j = false := by
  unfold upto at h
  rw [List.find?_map] at h
  cases h2 : (List.range n).find? (p ∘ fun i => i + 1) with
  | none => rw [h2] at h; cases h
  | some i =>
    rw [h2] at h
    have hs : i + 1 = s := Option.some.inj h
    subst hs
    rw [List.find?_range_eq_some] at h2
    obtain ⟨h3, h4, h5⟩ := h2
    refine ⟨h3, by omega, by have := List.mem_range.mp h4; omega, fun j j1 j2 => ?_⟩
    have := h5 (j - 1) (by omega)
    simp only [Function.comp, show j - 1 + 1 = j by omega] at this
    simpa using this
theorem find_of {n s : Nat} {p : Nat → Bool} (h1 : 1 ≤ s) (h2 : s ≤ n) (h : p s = true) (h3 : ∀ j, 1 ≤ j → j < s → p j = false) : (upto n).find? p = some s := by
  unfold upto
  rw [List.find?_map]
  have : (List.range n).find? (p ∘ fun i => i + 1) = some (s - 1) := by
    rw [List.find?_range_eq_some]
    refine ⟨by simp only [Function.comp, show s - 1 + 1 = s by omega]; exact h, List.mem_range.mpr (by omega), fun j hj => ?_⟩
    simp only [Function.comp]
    rw [h3 (j + 1) (by omega) (by omega)]
    rfl
  rw [this]
  show some (s - 1 + 1) = _
  rw [show s - 1 + 1 = s by omega]
theorem upto_mem {n k : Nat} (h : k ∈ upto n) : 1 ≤ k ∧ k ≤ n := by
  obtain ⟨i, hi, rfl⟩ := List.mem_map.mp h
  have := List.mem_range.mp hi
  show 1 ≤ i + 1 ∧ i + 1 ≤ n
  omega
theorem range2_up {n : Nat} (h : n ≤ 1000) : range2 (.int 1) (.int ((n : Int) + 1)) = some ((upto n).map nD) := by
  simp only [range2]
  rw [if_pos (by omega), show ((n : Int) + 1 - 1).toNat = n by omega, upto_range]
theorem joinL_nil : ∀ l : List (List Nat), joinL [] l = l.flatten
  | [] => rfl
  | [x] => by rw [List.flatten_cons, List.flatten_nil, List.append_nil]; rfl
  | x :: y :: r => by
    show x ++ [] ++ joinL [] (y :: r) = _
    rw [joinL_nil (y :: r), List.append_nil]
    rfl
theorem flat_sum (l : List (List Nat)) : (l.map List.length).sum = l.flatten.length := by rw [List.length_flatten]
theorem mJoin_strs {l : List (List Nat)} (h : l.flatten.length ≤ 16777216) : mJoin (ps []) (.tuple (l.map ps)) = some (ps l.flatten) := by
  show (strsOf (l.map ps)).bind _ = _
  rw [show l.map ps = l.map fun x => ps (id x) from rfl, strsOf_map]
  show (if _ then some _ else none) = _
  have e1 : ((l.map fun x => (⟨(id x : List Nat).toArray⟩ : Str)).map fun s => (cl s).length).sum = l.flatten.length := by
    rw [List.map_map, ← flat_sum]
    rfl
  have e2 : (l.map fun x => (⟨(id x : List Nat).toArray⟩ : Str)).map cl = l := by
    rw [List.map_map]
    exact List.map_id l
  rw [if_pos (by rw [e1, cl_mk, List.length_nil, Nat.mul_zero, Nat.add_zero]; exact h), e2, cl_mk, joinL_nil]
def rowsOf (w : List Nat) (n k : Nat) : List (List Nat) := (List.range k).map fun j => gone w n ((j * n) % w.length)
theorem rowsOf_len (w : List Nat) (n k : Nat) : (rowsOf w n k).length = k := by unfold rowsOf; rw [List.length_map, List.length_range]
theorem rowsOf_succ (w : List Nat) (n k : Nat) : rowsOf w n (k + 1) = rowsOf w n k ++ [gone w n ((k * n) % w.length)] := by
  unfold rowsOf
  rw [List.range_succ, List.map_append]
  rfl
theorem step_loop {w : List Nat} {n a : Nat} {c : Cup} (hw : 1 ≤ w.length) (ha : a < w.length) {x1 x2 x3 x5 x6 : Option D} :
    ∃ y, forD (tgN 6) b__law_went_1 (rangeD 0 n) [some (ps w), x1, x2, x3, some (nD a), x5, x6] c = some (.nx [some (ps w), x1, x2, x3, some (nD ((a + n) % w.length)), x5, y] c) := by
  obtain ⟨Γ2, c2, e, rfl, y, rfl⟩ := forD_range (tg := tgN 6) (lo := 0) (n := n) (b := b__law_went_1) (c := c)
    (fun i Γ c' => c' = c ∧ ∃ y, Γ = [some (ps w), x1, x2, x3, some (nD ((a + i) % w.length)), x5, y])
    (fun i Γ c' hi ⟨hc, y, hΓ⟩ => by
      subst hΓ hc
      have hlt : (a + i) % w.length < w.length := Nat.mod_lt _ (by omega)
      refine ⟨_, [some (ps w), x1, x2, x3, some (nD ((a + (i + 1)) % w.length)), x5, some (.int (0 + (i : Int)))], c', rfl, .inl ?_, rfl, _, rfl⟩
      have e3 : (a + (i + 1)) % w.length = if (a + i) % w.length + 1 < w.length then (a + i) % w.length + 1 else 0 := by
        rw [next_if hlt, Nat.mod_add_mod, Nat.add_assoc]
      rw [e3]
      by_cases h : (a + i) % w.length + 1 < w.length
      · have h' : (((a + i) % w.length : Nat) : Int) + 1 < (w.length : Int) := by omega
        rw [if_pos h]
        simp -implicitDefEqProofs (disch := (first | omega | assumption | (simp only [List.length_append, List.length_map, rangeD_len, List.length_cons, List.length_nil, List.length_range, List.length_reverse]; omega))) only [sVar_0, sVar_1, sVar_2, sVar_3, sVar_4, sVar_5, sVar_6, sVar_7, sVar_8, sVar_9, sVar_10, sVar_11, sVar_12, sVar_13, sVar_14, sVar_15, sVar_16, sVar_17, sVar_18, sVar_19, sVar_20, sVar_21, sVar_22, sVar_23, sVar_24, sVar_25, sVar_26, sVar_27, sVar_28, sVar_29, sVar_30, sVar_31, sVar_32, sVar_33, sVar_34, sC_e, sDct_e, bSortedA_l, bSortedA_t, bSortedA_s, sOp_e, sU_e, sB_b, boolD_b, sAnd_e, sOr_e, sNot_e, sAndV_e, sOrV_e, sNotV_e, sIf_e, sNeg_e, negD_i, sCall_e, sNil_e, sCons_e, sTup_e, sLst_e, sIsi_e, sNoP_e, sPart_e, intD_i, sSl_e, sCup0_e, sCup1_e, sChain_e, sSkip_e, sSeq_e, thenO_nx, thenO_rt, thenO_bk, thenO_ct, sDrop_e, sRet_e, sRetN_e, sIte_e, sSet_e, sSets_e, setAll_nil, setAll_cons, sApp_e, sExt_e, sPut_e, sAug_e, sAugI_e, sPut0_e, sPut1_e, put0_i, put1_i, sFor_e, sItems_e, sRange1_e, range1_i, sRange2_e, sComp_e, tgN_e, wipeE_nil, wipeE_cons, sYes_e, runD_e, outR_rt, outR_nx, env0_t, env0_f, oAdd_i, oAdd_s, oAdd_l, oAdd_t, oAddL_l, oSub_i, oMul_i, oMul_s, oMul_l, oMulL_l, oMul_t, oDiv_i, oMod_i, oLt_i, oLe_i, oLt_s, oLe_s, oGt_i, oGe_i, oEq_i, oNe_i, oEq_s, oNe_s, oIs_n, oIsNot_n, oIs_b, oIn_s, bLen_l, bLen_t, bLen_s, bInt_i, bStr_s, bTuple_l, bTuple_t, bList_l, bList_t, itemsOf_l, itemsOf_t, itemsOf_s, isTy, isNonB, bTupleA_l, bTupleA_t, bTupleA_s, bListA_l, bListA_t, bListA_s, bRev_l, bRev_t, bRev_s, mCount_s, sZip_e, sEnum_e, sComp2_e, sLstR_e, sTupR_e, tgTup2_e, sUnp_e, unpD_2, unpD_3, unpD_4, bAll_2, oIx_s, oIx_l, oIx_t, oSl_s, oSl_l, oSl_t, oNe_ln, oEq_ln, Option.bind_some, Option.bind_none, Option.map_some, Option.map_none, List.set_cons_zero, List.set_cons_succ, List.map_cons, List.map_nil, List.replicate_succ, List.replicate_zero, List.cons_append, List.nil_append, List.length_cons, List.length_nil, if_true, if_false, Bool.not_true, Bool.not_false, Bool.false_eq_true, reduceIte, decide_true, decide_false, Bool.true_and, Bool.false_and, Bool.and_true, Bool.and_false, Nat.reduceLeDiff, Nat.reduceAdd, Nat.zero_add, and_self, and_true, true_and, and_false, false_and, h']
        rfl
      · have h' : ¬ (((a + i) % w.length : Nat) : Int) + 1 < (w.length : Int) := by omega
        rw [if_neg h]
        simp -implicitDefEqProofs (disch := (first | omega | assumption | (simp only [List.length_append, List.length_map, rangeD_len, List.length_cons, List.length_nil, List.length_range, List.length_reverse]; omega))) only [sVar_0, sVar_1, sVar_2, sVar_3, sVar_4, sVar_5, sVar_6, sVar_7, sVar_8, sVar_9, sVar_10, sVar_11, sVar_12, sVar_13, sVar_14, sVar_15, sVar_16, sVar_17, sVar_18, sVar_19, sVar_20, sVar_21, sVar_22, sVar_23, sVar_24, sVar_25, sVar_26, sVar_27, sVar_28, sVar_29, sVar_30, sVar_31, sVar_32, sVar_33, sVar_34, sC_e, sDct_e, bSortedA_l, bSortedA_t, bSortedA_s, sOp_e, sU_e, sB_b, boolD_b, sAnd_e, sOr_e, sNot_e, sAndV_e, sOrV_e, sNotV_e, sIf_e, sNeg_e, negD_i, sCall_e, sNil_e, sCons_e, sTup_e, sLst_e, sIsi_e, sNoP_e, sPart_e, intD_i, sSl_e, sCup0_e, sCup1_e, sChain_e, sSkip_e, sSeq_e, thenO_nx, thenO_rt, thenO_bk, thenO_ct, sDrop_e, sRet_e, sRetN_e, sIte_e, sSet_e, sSets_e, setAll_nil, setAll_cons, sApp_e, sExt_e, sPut_e, sAug_e, sAugI_e, sPut0_e, sPut1_e, put0_i, put1_i, sFor_e, sItems_e, sRange1_e, range1_i, sRange2_e, sComp_e, tgN_e, wipeE_nil, wipeE_cons, sYes_e, runD_e, outR_rt, outR_nx, env0_t, env0_f, oAdd_i, oAdd_s, oAdd_l, oAdd_t, oAddL_l, oSub_i, oMul_i, oMul_s, oMul_l, oMulL_l, oMul_t, oDiv_i, oMod_i, oLt_i, oLe_i, oLt_s, oLe_s, oGt_i, oGe_i, oEq_i, oNe_i, oEq_s, oNe_s, oIs_n, oIsNot_n, oIs_b, oIn_s, bLen_l, bLen_t, bLen_s, bInt_i, bStr_s, bTuple_l, bTuple_t, bList_l, bList_t, itemsOf_l, itemsOf_t, itemsOf_s, isTy, isNonB, bTupleA_l, bTupleA_t, bTupleA_s, bListA_l, bListA_t, bListA_s, bRev_l, bRev_t, bRev_s, mCount_s, sZip_e, sEnum_e, sComp2_e, sLstR_e, sTupR_e, tgTup2_e, sUnp_e, unpD_2, unpD_3, unpD_4, bAll_2, oIx_s, oIx_l, oIx_t, oSl_s, oSl_l, oSl_t, oNe_ln, oEq_ln, Option.bind_some, Option.bind_none, Option.map_some, Option.map_none, List.set_cons_zero, List.set_cons_succ, List.map_cons, List.map_nil, List.replicate_succ, List.replicate_zero, List.cons_append, List.nil_append, List.length_cons, List.length_nil, if_true, if_false, Bool.not_true, Bool.not_false, Bool.false_eq_true, reduceIte, decide_true, decide_false, Bool.true_and, Bool.false_and, Bool.and_true, Bool.and_false, Nat.reduceLeDiff, Nat.reduceAdd, Nat.zero_add, and_self, and_true, true_and, and_false, false_and, h']
        rfl) (Γ := [some (ps w), x1, x2, x3, some (nD a), x5, x6]) ⟨rfl, x6, by rw [Nat.add_zero, Nat.mod_eq_of_lt ha]⟩
  exact ⟨y, e⟩
theorem law_went_w {w : List Nat} {n k : Nat} {c : Cup} (W : Word w) (hn : n ≤ 24) (hk : k ≤ 40) : m__law_went [ps w, .int n, .int k] c = some (.tuple ((rowsOf w n k).map ps), c) := by
  have h2 := W.lo
  unfold m__law_went b__law_went
  simp -implicitDefEqProofs (disch := (first | omega | assumption | (simp only [List.length_append, List.length_map, rangeD_len, List.length_cons, List.length_nil, List.length_range, List.length_reverse]; omega))) only [sVar_0, sVar_1, sVar_2, sVar_3, sVar_4, sVar_5, sVar_6, sVar_7, sVar_8, sVar_9, sVar_10, sVar_11, sVar_12, sVar_13, sVar_14, sVar_15, sVar_16, sVar_17, sVar_18, sVar_19, sVar_20, sVar_21, sVar_22, sVar_23, sVar_24, sVar_25, sVar_26, sVar_27, sVar_28, sVar_29, sVar_30, sVar_31, sVar_32, sVar_33, sVar_34, sC_e, sDct_e, bSortedA_l, bSortedA_t, bSortedA_s, sOp_e, sU_e, sB_b, boolD_b, sAnd_e, sOr_e, sNot_e, sAndV_e, sOrV_e, sNotV_e, sIf_e, sNeg_e, negD_i, sCall_e, sNil_e, sCons_e, sTup_e, sLst_e, sIsi_e, sNoP_e, sPart_e, intD_i, sSl_e, sCup0_e, sCup1_e, sChain_e, sSkip_e, sSeq_e, thenO_nx, thenO_rt, thenO_bk, thenO_ct, sDrop_e, sRet_e, sRetN_e, sIte_e, sSet_e, sSets_e, setAll_nil, setAll_cons, sApp_e, sExt_e, sPut_e, sAug_e, sAugI_e, sPut0_e, sPut1_e, put0_i, put1_i, sFor_e, sItems_e, sRange1_e, range1_i, sRange2_e, sComp_e, tgN_e, wipeE_nil, wipeE_cons, sYes_e, runD_e, outR_rt, outR_nx, env0_t, env0_f, oAdd_i, oAdd_s, oAdd_l, oAdd_t, oAddL_l, oSub_i, oMul_i, oMul_s, oMul_l, oMulL_l, oMul_t, oDiv_i, oMod_i, oLt_i, oLe_i, oLt_s, oLe_s, oGt_i, oGe_i, oEq_i, oNe_i, oEq_s, oNe_s, oIs_n, oIsNot_n, oIs_b, oIn_s, bLen_l, bLen_t, bLen_s, bInt_i, bStr_s, bTuple_l, bTuple_t, bList_l, bList_t, itemsOf_l, itemsOf_t, itemsOf_s, isTy, isNonB, bTupleA_l, bTupleA_t, bTupleA_s, bListA_l, bListA_t, bListA_s, bRev_l, bRev_t, bRev_s, mCount_s, sZip_e, sEnum_e, sComp2_e, sLstR_e, sTupR_e, tgTup2_e, sUnp_e, unpD_2, unpD_3, unpD_4, bAll_2, oIx_s, oIx_l, oIx_t, oSl_s, oSl_l, oSl_t, oNe_ln, oEq_ln, Option.bind_some, Option.bind_none, Option.map_some, Option.map_none, List.set_cons_zero, List.set_cons_succ, List.map_cons, List.map_nil, List.replicate_succ, List.replicate_zero, List.cons_append, List.nil_append, List.length_cons, List.length_nil, if_true, if_false, Bool.not_true, Bool.not_false, Bool.false_eq_true, reduceIte, decide_true, decide_false, Bool.true_and, Bool.false_and, Bool.and_true, Bool.and_false, Nat.reduceLeDiff, Nat.reduceAdd, Nat.zero_add, and_self, and_true, true_and, and_false, false_and, Int.toNat_natCast]
  obtain ⟨Γ2, c2, e, rfl, y, z, rfl⟩ := forD_range (tg := tgN 5) (lo := 0) (n := k) (b := b__law_went_2) (c := c)
    (fun i Γ c' => c' = c ∧ ∃ y z, Γ = [some (ps w), some (.int n), some (.int k), some (.list ((rowsOf w n i).map ps)), some (nD ((i * n) % w.length)), y, z])
    (fun i Γ c' hi ⟨hc, y, z, hΓ⟩ => by
      subst hΓ hc
      have hlt : (i * n) % w.length < w.length := Nat.mod_lt _ (by omega)
      have ea : appO 3 [some (ps w), some (.int n), some (.int k), some (.list ((rowsOf w n i).map ps)), some (nD ((i * n) % w.length)), some (.int (0 + (i : Int))), z] (ps (gone w n ((i * n) % w.length))) c' = some (.nx [some (ps w), some (.int n), some (.int k), some (.list ((rowsOf w n i).map ps ++ [ps (gone w n ((i * n) % w.length))])), some (nD ((i * n) % w.length)), some (.int (0 + (i : Int))), z] c') := appO_s (appO_s (appO_s (appO_z (by rw [List.length_map, rowsOf_len]; omega))))
      obtain ⟨z2, e2⟩ := step_loop (w := w) (n := n) (a := (i * n) % w.length) (c := c') h2 hlt (x1 := some (.int n)) (x2 := some (.int k)) (x3 := some (.list ((rowsOf w n i).map ps ++ [ps (gone w n ((i * n) % w.length))]))) (x5 := some (.int (0 + (i : Int)))) (x6 := z)
      refine ⟨_, [some (ps w), some (.int n), some (.int k), some (.list ((rowsOf w n (i + 1)).map ps)), some (nD (((i + 1) * n) % w.length)), some (.int (0 + (i : Int))), z2], c', rfl, .inl ?_, rfl, _, _, rfl⟩
      rw [rowsOf_succ, List.map_append]
      simp -implicitDefEqProofs (disch := (first | omega | assumption | (simp only [List.length_append, List.length_map, rangeD_len, List.length_cons, List.length_nil, List.length_range, List.length_reverse]; omega))) only [sVar_0, sVar_1, sVar_2, sVar_3, sVar_4, sVar_5, sVar_6, sVar_7, sVar_8, sVar_9, sVar_10, sVar_11, sVar_12, sVar_13, sVar_14, sVar_15, sVar_16, sVar_17, sVar_18, sVar_19, sVar_20, sVar_21, sVar_22, sVar_23, sVar_24, sVar_25, sVar_26, sVar_27, sVar_28, sVar_29, sVar_30, sVar_31, sVar_32, sVar_33, sVar_34, sC_e, sDct_e, bSortedA_l, bSortedA_t, bSortedA_s, sOp_e, sU_e, sB_b, boolD_b, sAnd_e, sOr_e, sNot_e, sAndV_e, sOrV_e, sNotV_e, sIf_e, sNeg_e, negD_i, sCall_e, sNil_e, sCons_e, sTup_e, sLst_e, sIsi_e, sNoP_e, sPart_e, intD_i, sSl_e, sCup0_e, sCup1_e, sChain_e, sSkip_e, sSeq_e, thenO_nx, thenO_rt, thenO_bk, thenO_ct, sDrop_e, sRet_e, sRetN_e, sIte_e, sSet_e, sSets_e, setAll_nil, setAll_cons, sApp_e, sExt_e, sPut_e, sAug_e, sAugI_e, sPut0_e, sPut1_e, put0_i, put1_i, sFor_e, sItems_e, sRange1_e, range1_i, sRange2_e, sComp_e, tgN_e, wipeE_nil, wipeE_cons, sYes_e, runD_e, outR_rt, outR_nx, env0_t, env0_f, oAdd_i, oAdd_s, oAdd_l, oAdd_t, oAddL_l, oSub_i, oMul_i, oMul_s, oMul_l, oMulL_l, oMul_t, oDiv_i, oMod_i, oLt_i, oLe_i, oLt_s, oLe_s, oGt_i, oGe_i, oEq_i, oNe_i, oEq_s, oNe_s, oIs_n, oIsNot_n, oIs_b, oIn_s, bLen_l, bLen_t, bLen_s, bInt_i, bStr_s, bTuple_l, bTuple_t, bList_l, bList_t, itemsOf_l, itemsOf_t, itemsOf_s, isTy, isNonB, bTupleA_l, bTupleA_t, bTupleA_s, bListA_l, bListA_t, bListA_s, bRev_l, bRev_t, bRev_s, mCount_s, sZip_e, sEnum_e, sComp2_e, sLstR_e, sTupR_e, tgTup2_e, sUnp_e, unpD_2, unpD_3, unpD_4, bAll_2, oIx_s, oIx_l, oIx_t, oSl_s, oSl_l, oSl_t, oNe_ln, oEq_ln, Option.bind_some, Option.bind_none, Option.map_some, Option.map_none, List.set_cons_zero, List.set_cons_succ, List.map_cons, List.map_nil, List.replicate_succ, List.replicate_zero, List.cons_append, List.nil_append, List.length_cons, List.length_nil, if_true, if_false, Bool.not_true, Bool.not_false, Bool.false_eq_true, reduceIte, decide_true, decide_false, Bool.true_and, Bool.false_and, Bool.and_true, Bool.and_false, Nat.reduceLeDiff, Nat.reduceAdd, Nat.zero_add, and_self, and_true, true_and, and_false, false_and, law_wound_t h2 (n := n) (s := (i * n) % w.length) (by omega) hlt, ea, Int.toNat_natCast]
      rw [e2, Nat.mod_add_mod, ← Nat.succ_mul]) (Γ := [some (ps w), some (.int n), some (.int k), some (.list []), some (.int 0), none, none]) ⟨rfl, none, none, by rw [Nat.zero_mul, Nat.zero_mod]; rfl⟩
  rw [e]
  simp -implicitDefEqProofs (disch := (first | omega | assumption | (simp only [List.length_append, List.length_map, rangeD_len, List.length_cons, List.length_nil, List.length_range, List.length_reverse]; omega))) only [sVar_0, sVar_1, sVar_2, sVar_3, sVar_4, sVar_5, sVar_6, sVar_7, sVar_8, sVar_9, sVar_10, sVar_11, sVar_12, sVar_13, sVar_14, sVar_15, sVar_16, sVar_17, sVar_18, sVar_19, sVar_20, sVar_21, sVar_22, sVar_23, sVar_24, sVar_25, sVar_26, sVar_27, sVar_28, sVar_29, sVar_30, sVar_31, sVar_32, sVar_33, sVar_34, sC_e, sDct_e, bSortedA_l, bSortedA_t, bSortedA_s, sOp_e, sU_e, sB_b, boolD_b, sAnd_e, sOr_e, sNot_e, sAndV_e, sOrV_e, sNotV_e, sIf_e, sNeg_e, negD_i, sCall_e, sNil_e, sCons_e, sTup_e, sLst_e, sIsi_e, sNoP_e, sPart_e, intD_i, sSl_e, sCup0_e, sCup1_e, sChain_e, sSkip_e, sSeq_e, thenO_nx, thenO_rt, thenO_bk, thenO_ct, sDrop_e, sRet_e, sRetN_e, sIte_e, sSet_e, sSets_e, setAll_nil, setAll_cons, sApp_e, sExt_e, sPut_e, sAug_e, sAugI_e, sPut0_e, sPut1_e, put0_i, put1_i, sFor_e, sItems_e, sRange1_e, range1_i, sRange2_e, sComp_e, tgN_e, wipeE_nil, wipeE_cons, sYes_e, runD_e, outR_rt, outR_nx, env0_t, env0_f, oAdd_i, oAdd_s, oAdd_l, oAdd_t, oAddL_l, oSub_i, oMul_i, oMul_s, oMul_l, oMulL_l, oMul_t, oDiv_i, oMod_i, oLt_i, oLe_i, oLt_s, oLe_s, oGt_i, oGe_i, oEq_i, oNe_i, oEq_s, oNe_s, oIs_n, oIsNot_n, oIs_b, oIn_s, bLen_l, bLen_t, bLen_s, bInt_i, bStr_s, bTuple_l, bTuple_t, bList_l, bList_t, itemsOf_l, itemsOf_t, itemsOf_s, isTy, isNonB, bTupleA_l, bTupleA_t, bTupleA_s, bListA_l, bListA_t, bListA_s, bRev_l, bRev_t, bRev_s, mCount_s, sZip_e, sEnum_e, sComp2_e, sLstR_e, sTupR_e, tgTup2_e, sUnp_e, unpD_2, unpD_3, unpD_4, bAll_2, oIx_s, oIx_l, oIx_t, oSl_s, oSl_l, oSl_t, oNe_ln, oEq_ln, Option.bind_some, Option.bind_none, Option.map_some, Option.map_none, List.set_cons_zero, List.set_cons_succ, List.map_cons, List.map_nil, List.replicate_succ, List.replicate_zero, List.cons_append, List.nil_append, List.length_cons, List.length_nil, if_true, if_false, Bool.not_true, Bool.not_false, Bool.false_eq_true, reduceIte, decide_true, decide_false, Bool.true_and, Bool.false_and, Bool.and_true, Bool.and_false, Nat.reduceLeDiff, Nat.reduceAdd, Nat.zero_add, and_self, and_true, true_and, and_false, false_and]
theorem filter_head {p : Nat → Bool} {l : List Nat} {s : Nat} {g : Nat → D} (h : l.find? p = some s) : atI ((l.filter p).map g) 0 = some (g s) := by
  rw [← List.head?_filter] at h
  cases e : l.filter p with
  | nil => rw [e] at h; cases h
  | cons x r =>
    rw [e] at h
    cases h
    rw [atI_lt (by omega) (by simp)]
    rfl
theorem need_stakes_i {n : Nat} {c : Cup} (h0 : 3 ≤ n) (h1 : n ≤ 24) : m_need_stakes [.int n] c = some (.none, c) := by
  unfold m_need_stakes b_need_stakes
  simp -implicitDefEqProofs (disch := (first | omega | assumption | (simp only [List.length_append, List.length_map, rangeD_len, List.length_cons, List.length_nil, List.length_range, List.length_reverse]; omega))) only [sVar_0, sVar_1, sVar_2, sVar_3, sVar_4, sVar_5, sVar_6, sVar_7, sVar_8, sVar_9, sVar_10, sVar_11, sVar_12, sVar_13, sVar_14, sVar_15, sVar_16, sVar_17, sVar_18, sVar_19, sVar_20, sVar_21, sVar_22, sVar_23, sVar_24, sVar_25, sVar_26, sVar_27, sVar_28, sVar_29, sVar_30, sVar_31, sVar_32, sVar_33, sVar_34, sC_e, sDct_e, bSortedA_l, bSortedA_t, bSortedA_s, sOp_e, sU_e, sB_b, boolD_b, sAnd_e, sOr_e, sNot_e, sAndV_e, sOrV_e, sNotV_e, sIf_e, sNeg_e, negD_i, sCall_e, sNil_e, sCons_e, sTup_e, sLst_e, sIsi_e, sNoP_e, sPart_e, intD_i, sSl_e, sCup0_e, sCup1_e, sChain_e, sSkip_e, sSeq_e, thenO_nx, thenO_rt, thenO_bk, thenO_ct, sDrop_e, sRet_e, sRetN_e, sIte_e, sSet_e, sSets_e, setAll_nil, setAll_cons, sApp_e, sExt_e, sPut_e, sAug_e, sAugI_e, sPut0_e, sPut1_e, put0_i, put1_i, sFor_e, sItems_e, sRange1_e, range1_i, sRange2_e, sComp_e, tgN_e, wipeE_nil, wipeE_cons, sYes_e, runD_e, outR_rt, outR_nx, env0_t, env0_f, oAdd_i, oAdd_s, oAdd_l, oAdd_t, oAddL_l, oSub_i, oMul_i, oMul_s, oMul_l, oMulL_l, oMul_t, oDiv_i, oMod_i, oLt_i, oLe_i, oLt_s, oLe_s, oGt_i, oGe_i, oEq_i, oNe_i, oEq_s, oNe_s, oIs_n, oIsNot_n, oIs_b, oIn_s, bLen_l, bLen_t, bLen_s, bInt_i, bStr_s, bTuple_l, bTuple_t, bList_l, bList_t, itemsOf_l, itemsOf_t, itemsOf_s, isTy, isNonB, bTupleA_l, bTupleA_t, bTupleA_s, bListA_l, bListA_t, bListA_s, bRev_l, bRev_t, bRev_s, mCount_s, sZip_e, sEnum_e, sComp2_e, sLstR_e, sTupR_e, tgTup2_e, sUnp_e, unpD_2, unpD_3, unpD_4, bAll_2, oIx_s, oIx_l, oIx_t, oSl_s, oSl_l, oSl_t, oNe_ln, oEq_ln, Option.bind_some, Option.bind_none, Option.map_some, Option.map_none, List.set_cons_zero, List.set_cons_succ, List.map_cons, List.map_nil, List.replicate_succ, List.replicate_zero, List.cons_append, List.nil_append, List.length_cons, List.length_nil, if_true, if_false, Bool.not_true, Bool.not_false, Bool.false_eq_true, reduceIte, decide_true, decide_false, Bool.true_and, Bool.false_and, Bool.and_true, Bool.and_false, Nat.reduceLeDiff, Nat.reduceAdd, Nat.zero_add, and_self, and_true, true_and, and_false, false_and, fits_whole_i (i := (n : Int)) (lo := 3) (hi := 24) (by omega) (by omega)]
theorem SameOk.mapT {α : Type} {k : Nat} {f : α → D} {l : List α} (h : l.length ≤ 1000) (hf : ∀ x ∈ l, SameOk k (f x)) : SameOk (k + 1) (.tuple (l.map f)) := ⟨by rw [List.length_map]; omega, fun d hd => by
  obtain ⟨x, hx, rfl⟩ := List.mem_map.mp hd
  exact hf x hx⟩
theorem need_rounds_i {n : Nat} {c : Cup} (h0 : 1 ≤ n) (h1 : n ≤ 40) : m_need_rounds [.int n] c = some (.none, c) := by
  unfold m_need_rounds b_need_rounds
  simp -implicitDefEqProofs (disch := (first | omega | assumption | (simp only [List.length_append, List.length_map, rangeD_len, List.length_cons, List.length_nil, List.length_range, List.length_reverse]; omega))) only [sVar_0, sVar_1, sVar_2, sVar_3, sVar_4, sVar_5, sVar_6, sVar_7, sVar_8, sVar_9, sVar_10, sVar_11, sVar_12, sVar_13, sVar_14, sVar_15, sVar_16, sVar_17, sVar_18, sVar_19, sVar_20, sVar_21, sVar_22, sVar_23, sVar_24, sVar_25, sVar_26, sVar_27, sVar_28, sVar_29, sVar_30, sVar_31, sVar_32, sVar_33, sVar_34, sC_e, sDct_e, bSortedA_l, bSortedA_t, bSortedA_s, sOp_e, sU_e, sB_b, boolD_b, sAnd_e, sOr_e, sNot_e, sAndV_e, sOrV_e, sNotV_e, sIf_e, sNeg_e, negD_i, sCall_e, sNil_e, sCons_e, sTup_e, sLst_e, sIsi_e, sNoP_e, sPart_e, intD_i, sSl_e, sCup0_e, sCup1_e, sChain_e, sSkip_e, sSeq_e, thenO_nx, thenO_rt, thenO_bk, thenO_ct, sDrop_e, sRet_e, sRetN_e, sIte_e, sSet_e, sSets_e, setAll_nil, setAll_cons, sApp_e, sExt_e, sPut_e, sAug_e, sAugI_e, sPut0_e, sPut1_e, put0_i, put1_i, sFor_e, sItems_e, sRange1_e, range1_i, sRange2_e, sComp_e, tgN_e, wipeE_nil, wipeE_cons, sYes_e, runD_e, outR_rt, outR_nx, env0_t, env0_f, oAdd_i, oAdd_s, oAdd_l, oAdd_t, oAddL_l, oSub_i, oMul_i, oMul_s, oMul_l, oMulL_l, oMul_t, oDiv_i, oMod_i, oLt_i, oLe_i, oLt_s, oLe_s, oGt_i, oGe_i, oEq_i, oNe_i, oEq_s, oNe_s, oIs_n, oIsNot_n, oIs_b, oIn_s, bLen_l, bLen_t, bLen_s, bInt_i, bStr_s, bTuple_l, bTuple_t, bList_l, bList_t, itemsOf_l, itemsOf_t, itemsOf_s, isTy, isNonB, bTupleA_l, bTupleA_t, bTupleA_s, bListA_l, bListA_t, bListA_s, bRev_l, bRev_t, bRev_s, mCount_s, sZip_e, sEnum_e, sComp2_e, sLstR_e, sTupR_e, tgTup2_e, sUnp_e, unpD_2, unpD_3, unpD_4, bAll_2, oIx_s, oIx_l, oIx_t, oSl_s, oSl_l, oSl_t, oNe_ln, oEq_ln, Option.bind_some, Option.bind_none, Option.map_some, Option.map_none, List.set_cons_zero, List.set_cons_succ, List.map_cons, List.map_nil, List.replicate_succ, List.replicate_zero, List.cons_append, List.nil_append, List.length_cons, List.length_nil, if_true, if_false, Bool.not_true, Bool.not_false, Bool.false_eq_true, reduceIte, decide_true, decide_false, Bool.true_and, Bool.false_and, Bool.and_true, Bool.and_false, Nat.reduceLeDiff, Nat.reduceAdd, Nat.zero_add, and_self, and_true, true_and, and_false, false_and, fits_whole_i (i := (n : Int)) (lo := 1) (hi := 40) (by omega) (by omega)]
theorem rep_s {x k : Nat} (h : k ≤ 1000) : oMul (ps [x]) (nD k) = some (ps (List.replicate k x)) := by
  rw [oMul_s ⟨by omega, by rw [Int.toNat_natCast, List.length_singleton]; omega, by omega⟩, Int.toNat_natCast, rep_flat]
abbrev wD (ws : List (List Nat)) : D := .tuple (ws.map ps)
theorem is_mixed_t {l : List Nat} {c : Cup} : m_is_mixed [ps l] c = some (.bool (decide (105 ∈ l) && decide (111 ∈ l)), c) := by
  unfold m_is_mixed b_is_mixed
  cases h : decide (105 ∈ l) with
  | true => simp -implicitDefEqProofs (disch := (first | omega | assumption | (simp only [List.length_append, List.length_map, rangeD_len, List.length_cons, List.length_nil, List.length_range, List.length_reverse]; omega))) only [sVar_0, sVar_1, sVar_2, sVar_3, sVar_4, sVar_5, sVar_6, sVar_7, sVar_8, sVar_9, sVar_10, sVar_11, sVar_12, sVar_13, sVar_14, sVar_15, sVar_16, sVar_17, sVar_18, sVar_19, sVar_20, sVar_21, sVar_22, sVar_23, sVar_24, sVar_25, sVar_26, sVar_27, sVar_28, sVar_29, sVar_30, sVar_31, sVar_32, sVar_33, sVar_34, sC_e, sDct_e, bSortedA_l, bSortedA_t, bSortedA_s, sOp_e, sU_e, sB_b, boolD_b, sAnd_e, sOr_e, sNot_e, sAndV_e, sOrV_e, sNotV_e, sIf_e, sNeg_e, negD_i, sCall_e, sNil_e, sCons_e, sTup_e, sLst_e, sIsi_e, sNoP_e, sPart_e, intD_i, sSl_e, sCup0_e, sCup1_e, sChain_e, sSkip_e, sSeq_e, thenO_nx, thenO_rt, thenO_bk, thenO_ct, sDrop_e, sRet_e, sRetN_e, sIte_e, sSet_e, sSets_e, setAll_nil, setAll_cons, sApp_e, sExt_e, sPut_e, sAug_e, sAugI_e, sPut0_e, sPut1_e, put0_i, put1_i, sFor_e, sItems_e, sRange1_e, range1_i, sRange2_e, sComp_e, tgN_e, wipeE_nil, wipeE_cons, sYes_e, runD_e, outR_rt, outR_nx, env0_t, env0_f, oAdd_i, oAdd_s, oAdd_l, oAdd_t, oAddL_l, oSub_i, oMul_i, oMul_s, oMul_l, oMulL_l, oMul_t, oDiv_i, oMod_i, oLt_i, oLe_i, oLt_s, oLe_s, oGt_i, oGe_i, oEq_i, oNe_i, oEq_s, oNe_s, oIs_n, oIsNot_n, oIs_b, oIn_s, bLen_l, bLen_t, bLen_s, bInt_i, bStr_s, bTuple_l, bTuple_t, bList_l, bList_t, itemsOf_l, itemsOf_t, itemsOf_s, isTy, isNonB, bTupleA_l, bTupleA_t, bTupleA_s, bListA_l, bListA_t, bListA_s, bRev_l, bRev_t, bRev_s, mCount_s, sZip_e, sEnum_e, sComp2_e, sLstR_e, sTupR_e, tgTup2_e, sUnp_e, unpD_2, unpD_3, unpD_4, bAll_2, oIx_s, oIx_l, oIx_t, oSl_s, oSl_l, oSl_t, oNe_ln, oEq_ln, Option.bind_some, Option.bind_none, Option.map_some, Option.map_none, List.set_cons_zero, List.set_cons_succ, List.map_cons, List.map_nil, List.replicate_succ, List.replicate_zero, List.cons_append, List.nil_append, List.length_cons, List.length_nil, if_true, if_false, Bool.not_true, Bool.not_false, Bool.false_eq_true, reduceIte, decide_true, decide_false, Bool.true_and, Bool.false_and, Bool.and_true, Bool.and_false, Nat.reduceLeDiff, Nat.reduceAdd, Nat.zero_add, and_self, and_true, true_and, and_false, false_and, h]
  | false => simp -implicitDefEqProofs (disch := (first | omega | assumption | (simp only [List.length_append, List.length_map, rangeD_len, List.length_cons, List.length_nil, List.length_range, List.length_reverse]; omega))) only [sVar_0, sVar_1, sVar_2, sVar_3, sVar_4, sVar_5, sVar_6, sVar_7, sVar_8, sVar_9, sVar_10, sVar_11, sVar_12, sVar_13, sVar_14, sVar_15, sVar_16, sVar_17, sVar_18, sVar_19, sVar_20, sVar_21, sVar_22, sVar_23, sVar_24, sVar_25, sVar_26, sVar_27, sVar_28, sVar_29, sVar_30, sVar_31, sVar_32, sVar_33, sVar_34, sC_e, sDct_e, bSortedA_l, bSortedA_t, bSortedA_s, sOp_e, sU_e, sB_b, boolD_b, sAnd_e, sOr_e, sNot_e, sAndV_e, sOrV_e, sNotV_e, sIf_e, sNeg_e, negD_i, sCall_e, sNil_e, sCons_e, sTup_e, sLst_e, sIsi_e, sNoP_e, sPart_e, intD_i, sSl_e, sCup0_e, sCup1_e, sChain_e, sSkip_e, sSeq_e, thenO_nx, thenO_rt, thenO_bk, thenO_ct, sDrop_e, sRet_e, sRetN_e, sIte_e, sSet_e, sSets_e, setAll_nil, setAll_cons, sApp_e, sExt_e, sPut_e, sAug_e, sAugI_e, sPut0_e, sPut1_e, put0_i, put1_i, sFor_e, sItems_e, sRange1_e, range1_i, sRange2_e, sComp_e, tgN_e, wipeE_nil, wipeE_cons, sYes_e, runD_e, outR_rt, outR_nx, env0_t, env0_f, oAdd_i, oAdd_s, oAdd_l, oAdd_t, oAddL_l, oSub_i, oMul_i, oMul_s, oMul_l, oMulL_l, oMul_t, oDiv_i, oMod_i, oLt_i, oLe_i, oLt_s, oLe_s, oGt_i, oGe_i, oEq_i, oNe_i, oEq_s, oNe_s, oIs_n, oIsNot_n, oIs_b, oIn_s, bLen_l, bLen_t, bLen_s, bInt_i, bStr_s, bTuple_l, bTuple_t, bList_l, bList_t, itemsOf_l, itemsOf_t, itemsOf_s, isTy, isNonB, bTupleA_l, bTupleA_t, bTupleA_s, bListA_l, bListA_t, bListA_s, bRev_l, bRev_t, bRev_s, mCount_s, sZip_e, sEnum_e, sComp2_e, sLstR_e, sTupR_e, tgTup2_e, sUnp_e, unpD_2, unpD_3, unpD_4, bAll_2, oIx_s, oIx_l, oIx_t, oSl_s, oSl_l, oSl_t, oNe_ln, oEq_ln, Option.bind_some, Option.bind_none, Option.map_some, Option.map_none, List.set_cons_zero, List.set_cons_succ, List.map_cons, List.map_nil, List.replicate_succ, List.replicate_zero, List.cons_append, List.nil_append, List.length_cons, List.length_nil, if_true, if_false, Bool.not_true, Bool.not_false, Bool.false_eq_true, reduceIte, decide_true, decide_false, Bool.true_and, Bool.false_and, Bool.and_true, Bool.and_false, Nat.reduceLeDiff, Nat.reduceAdd, Nat.zero_add, and_self, and_true, true_and, and_false, false_and, h]
def lw : Nat → List (List Nat)
  | 0 => [[]]
  | k + 1 => (lw k).flatMap fun w => [w ++ [105], w ++ [111]]
theorem two_len (l : List (List Nat)) : (l.flatMap fun w => [w ++ [105], w ++ [111]]).length = 2 * l.length := by
  induction l with
  | nil => rfl
  | cons x r ih =>
    rw [List.flatMap_cons, List.length_append, ih, List.length_cons]
    simp only [List.length_cons, List.length_nil]
    omega
theorem lw_len : ∀ k, (lw k).length = 2 ^ k
  | 0 => rfl
  | k + 1 => by rw [lw, two_len, lw_len k, Nat.pow_succ, Nat.mul_comm]
theorem lw_row : ∀ k, ∀ l ∈ lw k, l.length = k
  | 0, l, h => by rw [List.mem_singleton.mp h]; rfl
  | k + 1, l, h => by
    obtain ⟨w, hw, hl⟩ := List.mem_flatMap.mp h
    have := lw_row k w hw
    simp only [List.mem_cons, List.not_mem_nil, or_false] at hl
    rcases hl with rfl | rfl
    · rw [List.length_append, this, List.length_singleton]
    · rw [List.length_append, this, List.length_singleton]
theorem words_loop {c : Cup} {x0 x1 x2 : Option D} : ∀ (r A : List (List Nat)) (y : Option D), (∀ w ∈ r, w.length ≤ 100) → A.length + 2 * r.length ≤ 10000 → ∃ y', forD (tgN 4) b__law_words_1 (r.map ps) [x0, x1, x2, some (.list (A.map ps)), y] c = some (.nx [x0, x1, x2, some (.list ((A ++ r.flatMap fun w => [w ++ [105], w ++ [111]]).map ps)), y'] c)
  | [], A, y, _, _ => ⟨y, by rw [List.flatMap_nil, List.append_nil]; rfl⟩
  | w :: r, A, y, hw, hl => by
    rw [List.length_cons] at hl
    obtain ⟨y', e⟩ := words_loop (c := c) (x0 := x0) (x1 := x1) (x2 := x2) r (A ++ [w ++ [105], w ++ [111]]) (some (ps w)) (fun v hv => hw v (List.mem_cons_of_mem _ hv)) (by rw [List.length_append]; simp only [List.length_cons, List.length_nil]; omega)
    refine ⟨y', ?_⟩
    have hx := hw w List.mem_cons_self
    rw [List.flatMap_cons, ← List.append_assoc]
    refine forD_step (Γ' := [x0, x1, x2, some (.list (A.map ps)), some (ps w)]) rfl ?_ e
    have ha : oAdd (.list (A.map ps)) (.list [ps (w ++ [105]), ps (w ++ [111])]) = some (.list ((A ++ [w ++ [105], w ++ [111]]).map ps)) := by
      rw [oAdd_l (by rw [List.length_map]; simp only [List.length_cons, List.length_nil]; omega), List.map_append]
      rfl
    simp -implicitDefEqProofs (disch := (first | omega | assumption | (simp only [List.length_append, List.length_map, rangeD_len, List.length_cons, List.length_nil, List.length_range, List.length_reverse]; omega))) only [sVar_0, sVar_1, sVar_2, sVar_3, sVar_4, sVar_5, sVar_6, sVar_7, sVar_8, sVar_9, sVar_10, sVar_11, sVar_12, sVar_13, sVar_14, sVar_15, sVar_16, sVar_17, sVar_18, sVar_19, sVar_20, sVar_21, sVar_22, sVar_23, sVar_24, sVar_25, sVar_26, sVar_27, sVar_28, sVar_29, sVar_30, sVar_31, sVar_32, sVar_33, sVar_34, sC_e, sDct_e, bSortedA_l, bSortedA_t, bSortedA_s, sOp_e, sU_e, sB_b, boolD_b, sAnd_e, sOr_e, sNot_e, sAndV_e, sOrV_e, sNotV_e, sIf_e, sNeg_e, negD_i, sCall_e, sNil_e, sCons_e, sTup_e, sLst_e, sIsi_e, sNoP_e, sPart_e, intD_i, sSl_e, sCup0_e, sCup1_e, sChain_e, sSkip_e, sSeq_e, thenO_nx, thenO_rt, thenO_bk, thenO_ct, sDrop_e, sRet_e, sRetN_e, sIte_e, sSet_e, sSets_e, setAll_nil, setAll_cons, sApp_e, sExt_e, sPut_e, sAug_e, sAugI_e, sPut0_e, sPut1_e, put0_i, put1_i, sFor_e, sItems_e, sRange1_e, range1_i, sRange2_e, sComp_e, tgN_e, wipeE_nil, wipeE_cons, sYes_e, runD_e, outR_rt, outR_nx, env0_t, env0_f, oAdd_i, oAdd_s, oAdd_l, oAdd_t, oAddL_l, oSub_i, oMul_i, oMul_s, oMul_l, oMulL_l, oMul_t, oDiv_i, oMod_i, oLt_i, oLe_i, oLt_s, oLe_s, oGt_i, oGe_i, oEq_i, oNe_i, oEq_s, oNe_s, oIs_n, oIsNot_n, oIs_b, oIn_s, bLen_l, bLen_t, bLen_s, bInt_i, bStr_s, bTuple_l, bTuple_t, bList_l, bList_t, itemsOf_l, itemsOf_t, itemsOf_s, isTy, isNonB, bTupleA_l, bTupleA_t, bTupleA_s, bListA_l, bListA_t, bListA_s, bRev_l, bRev_t, bRev_s, mCount_s, sZip_e, sEnum_e, sComp2_e, sLstR_e, sTupR_e, tgTup2_e, sUnp_e, unpD_2, unpD_3, unpD_4, bAll_2, oIx_s, oIx_l, oIx_t, oSl_s, oSl_l, oSl_t, oNe_ln, oEq_ln, Option.bind_some, Option.bind_none, Option.map_some, Option.map_none, List.set_cons_zero, List.set_cons_succ, List.map_cons, List.map_nil, List.replicate_succ, List.replicate_zero, List.cons_append, List.nil_append, List.length_cons, List.length_nil, if_true, if_false, Bool.not_true, Bool.not_false, Bool.false_eq_true, reduceIte, decide_true, decide_false, Bool.true_and, Bool.false_and, Bool.and_true, Bool.and_false, Nat.reduceLeDiff, Nat.reduceAdd, Nat.zero_add, and_self, and_true, true_and, and_false, false_and, ha]
theorem law_words_t {n : Nat} {c : Cup} (hn : n ≤ 8) : m__law_words [nD n] c = some (.list ((lw n).map ps), c) := by
  unfold m__law_words b__law_words
  simp -implicitDefEqProofs (disch := (first | omega | assumption | (simp only [List.length_append, List.length_map, rangeD_len, List.length_cons, List.length_nil, List.length_range, List.length_reverse]; omega))) only [sVar_0, sVar_1, sVar_2, sVar_3, sVar_4, sVar_5, sVar_6, sVar_7, sVar_8, sVar_9, sVar_10, sVar_11, sVar_12, sVar_13, sVar_14, sVar_15, sVar_16, sVar_17, sVar_18, sVar_19, sVar_20, sVar_21, sVar_22, sVar_23, sVar_24, sVar_25, sVar_26, sVar_27, sVar_28, sVar_29, sVar_30, sVar_31, sVar_32, sVar_33, sVar_34, sC_e, sDct_e, bSortedA_l, bSortedA_t, bSortedA_s, sOp_e, sU_e, sB_b, boolD_b, sAnd_e, sOr_e, sNot_e, sAndV_e, sOrV_e, sNotV_e, sIf_e, sNeg_e, negD_i, sCall_e, sNil_e, sCons_e, sTup_e, sLst_e, sIsi_e, sNoP_e, sPart_e, intD_i, sSl_e, sCup0_e, sCup1_e, sChain_e, sSkip_e, sSeq_e, thenO_nx, thenO_rt, thenO_bk, thenO_ct, sDrop_e, sRet_e, sRetN_e, sIte_e, sSet_e, sSets_e, setAll_nil, setAll_cons, sApp_e, sExt_e, sPut_e, sAug_e, sAugI_e, sPut0_e, sPut1_e, put0_i, put1_i, sFor_e, sItems_e, sRange1_e, range1_i, sRange2_e, sComp_e, tgN_e, wipeE_nil, wipeE_cons, sYes_e, runD_e, outR_rt, outR_nx, env0_t, env0_f, oAdd_i, oAdd_s, oAdd_l, oAdd_t, oAddL_l, oSub_i, oMul_i, oMul_s, oMul_l, oMulL_l, oMul_t, oDiv_i, oMod_i, oLt_i, oLe_i, oLt_s, oLe_s, oGt_i, oGe_i, oEq_i, oNe_i, oEq_s, oNe_s, oIs_n, oIsNot_n, oIs_b, oIn_s, bLen_l, bLen_t, bLen_s, bInt_i, bStr_s, bTuple_l, bTuple_t, bList_l, bList_t, itemsOf_l, itemsOf_t, itemsOf_s, isTy, isNonB, bTupleA_l, bTupleA_t, bTupleA_s, bListA_l, bListA_t, bListA_s, bRev_l, bRev_t, bRev_s, mCount_s, sZip_e, sEnum_e, sComp2_e, sLstR_e, sTupR_e, tgTup2_e, sUnp_e, unpD_2, unpD_3, unpD_4, bAll_2, oIx_s, oIx_l, oIx_t, oSl_s, oSl_l, oSl_t, oNe_ln, oEq_ln, Option.bind_some, Option.bind_none, Option.map_some, Option.map_none, List.set_cons_zero, List.set_cons_succ, List.map_cons, List.map_nil, List.replicate_succ, List.replicate_zero, List.cons_append, List.nil_append, List.length_cons, List.length_nil, if_true, if_false, Bool.not_true, Bool.not_false, Bool.false_eq_true, reduceIte, decide_true, decide_false, Bool.true_and, Bool.false_and, Bool.and_true, Bool.and_false, Nat.reduceLeDiff, Nat.reduceAdd, Nat.zero_add, and_self, and_true, true_and, and_false, false_and, Int.toNat_natCast]
  obtain ⟨Γ2, c2, h1, rfl, x2, x3, x4, rfl⟩ := forD_range (tg := tgN 2) (lo := 0) (n := n) (b := b__law_words_2) (c := c)
    (fun i Γ c' => c' = c ∧ ∃ x2 x3 x4, Γ = [some (nD n), some (.list ((lw i).map ps)), x2, x3, x4])
    (fun i Γ c' hi ⟨hc, x2, x3, x4, hΓ⟩ => by
      subst hΓ hc
      have hp : 2 ^ i ≤ 2 ^ 8 := Nat.pow_le_pow_right (by omega) (by omega)
      obtain ⟨y', e⟩ := words_loop (c := c') (x0 := some (nD n)) (x1 := some (.list ((lw i).map ps))) (x2 := some (.int (0 + (i : Int)))) (lw i) [] x4 (fun w hw => by rw [lw_row i w hw]; omega) (by rw [lw_len, List.length_nil]; omega)
      refine ⟨_, [some (nD n), some (.list ((lw (i + 1)).map ps)), some (.int (0 + (i : Int))), some (.list ((lw (i + 1)).map ps)), y'], c', rfl, .inl ?_, rfl, _, _, _, rfl⟩
      rw [List.nil_append] at e
      have e' : forD (tgN 4) b__law_words_1 ((lw i).map ps) [some (nD n), some (.list ((lw i).map ps)), some (.int (0 + (i : Int))), some (.list []), x4] c' = some (.nx [some (nD n), some (.list ((lw i).map ps)), some (.int (0 + (i : Int))), some (.list ((lw (i + 1)).map ps)), y'] c') := e
      simp -implicitDefEqProofs (disch := (first | omega | assumption | (simp only [List.length_append, List.length_map, rangeD_len, List.length_cons, List.length_nil, List.length_range, List.length_reverse]; omega))) only [sVar_0, sVar_1, sVar_2, sVar_3, sVar_4, sVar_5, sVar_6, sVar_7, sVar_8, sVar_9, sVar_10, sVar_11, sVar_12, sVar_13, sVar_14, sVar_15, sVar_16, sVar_17, sVar_18, sVar_19, sVar_20, sVar_21, sVar_22, sVar_23, sVar_24, sVar_25, sVar_26, sVar_27, sVar_28, sVar_29, sVar_30, sVar_31, sVar_32, sVar_33, sVar_34, sC_e, sDct_e, bSortedA_l, bSortedA_t, bSortedA_s, sOp_e, sU_e, sB_b, boolD_b, sAnd_e, sOr_e, sNot_e, sAndV_e, sOrV_e, sNotV_e, sIf_e, sNeg_e, negD_i, sCall_e, sNil_e, sCons_e, sTup_e, sLst_e, sIsi_e, sNoP_e, sPart_e, intD_i, sSl_e, sCup0_e, sCup1_e, sChain_e, sSkip_e, sSeq_e, thenO_nx, thenO_rt, thenO_bk, thenO_ct, sDrop_e, sRet_e, sRetN_e, sIte_e, sSet_e, sSets_e, setAll_nil, setAll_cons, sApp_e, sExt_e, sPut_e, sAug_e, sAugI_e, sPut0_e, sPut1_e, put0_i, put1_i, sFor_e, sItems_e, sRange1_e, range1_i, sRange2_e, sComp_e, tgN_e, wipeE_nil, wipeE_cons, sYes_e, runD_e, outR_rt, outR_nx, env0_t, env0_f, oAdd_i, oAdd_s, oAdd_l, oAdd_t, oAddL_l, oSub_i, oMul_i, oMul_s, oMul_l, oMulL_l, oMul_t, oDiv_i, oMod_i, oLt_i, oLe_i, oLt_s, oLe_s, oGt_i, oGe_i, oEq_i, oNe_i, oEq_s, oNe_s, oIs_n, oIsNot_n, oIs_b, oIn_s, bLen_l, bLen_t, bLen_s, bInt_i, bStr_s, bTuple_l, bTuple_t, bList_l, bList_t, itemsOf_l, itemsOf_t, itemsOf_s, isTy, isNonB, bTupleA_l, bTupleA_t, bTupleA_s, bListA_l, bListA_t, bListA_s, bRev_l, bRev_t, bRev_s, mCount_s, sZip_e, sEnum_e, sComp2_e, sLstR_e, sTupR_e, tgTup2_e, sUnp_e, unpD_2, unpD_3, unpD_4, bAll_2, oIx_s, oIx_l, oIx_t, oSl_s, oSl_l, oSl_t, oNe_ln, oEq_ln, Option.bind_some, Option.bind_none, Option.map_some, Option.map_none, List.set_cons_zero, List.set_cons_succ, List.map_cons, List.map_nil, List.replicate_succ, List.replicate_zero, List.cons_append, List.nil_append, List.length_cons, List.length_nil, if_true, if_false, Bool.not_true, Bool.not_false, Bool.false_eq_true, reduceIte, decide_true, decide_false, Bool.true_and, Bool.false_and, Bool.and_true, Bool.and_false, Nat.reduceLeDiff, Nat.reduceAdd, Nat.zero_add, and_self, and_true, true_and, and_false, false_and, e']) (Γ := [some (nD n), some (.list [ps []]), none, none, none]) ⟨rfl, none, none, none, rfl⟩
  rw [h1]
  simp -implicitDefEqProofs (disch := (first | omega | assumption | (simp only [List.length_append, List.length_map, rangeD_len, List.length_cons, List.length_nil, List.length_range, List.length_reverse]; omega))) only [sVar_0, sVar_1, sVar_2, sVar_3, sVar_4, sVar_5, sVar_6, sVar_7, sVar_8, sVar_9, sVar_10, sVar_11, sVar_12, sVar_13, sVar_14, sVar_15, sVar_16, sVar_17, sVar_18, sVar_19, sVar_20, sVar_21, sVar_22, sVar_23, sVar_24, sVar_25, sVar_26, sVar_27, sVar_28, sVar_29, sVar_30, sVar_31, sVar_32, sVar_33, sVar_34, sC_e, sDct_e, bSortedA_l, bSortedA_t, bSortedA_s, sOp_e, sU_e, sB_b, boolD_b, sAnd_e, sOr_e, sNot_e, sAndV_e, sOrV_e, sNotV_e, sIf_e, sNeg_e, negD_i, sCall_e, sNil_e, sCons_e, sTup_e, sLst_e, sIsi_e, sNoP_e, sPart_e, intD_i, sSl_e, sCup0_e, sCup1_e, sChain_e, sSkip_e, sSeq_e, thenO_nx, thenO_rt, thenO_bk, thenO_ct, sDrop_e, sRet_e, sRetN_e, sIte_e, sSet_e, sSets_e, setAll_nil, setAll_cons, sApp_e, sExt_e, sPut_e, sAug_e, sAugI_e, sPut0_e, sPut1_e, put0_i, put1_i, sFor_e, sItems_e, sRange1_e, range1_i, sRange2_e, sComp_e, tgN_e, wipeE_nil, wipeE_cons, sYes_e, runD_e, outR_rt, outR_nx, env0_t, env0_f, oAdd_i, oAdd_s, oAdd_l, oAdd_t, oAddL_l, oSub_i, oMul_i, oMul_s, oMul_l, oMulL_l, oMul_t, oDiv_i, oMod_i, oLt_i, oLe_i, oLt_s, oLe_s, oGt_i, oGe_i, oEq_i, oNe_i, oEq_s, oNe_s, oIs_n, oIsNot_n, oIs_b, oIn_s, bLen_l, bLen_t, bLen_s, bInt_i, bStr_s, bTuple_l, bTuple_t, bList_l, bList_t, itemsOf_l, itemsOf_t, itemsOf_s, isTy, isNonB, bTupleA_l, bTupleA_t, bTupleA_s, bListA_l, bListA_t, bListA_s, bRev_l, bRev_t, bRev_s, mCount_s, sZip_e, sEnum_e, sComp2_e, sLstR_e, sTupR_e, tgTup2_e, sUnp_e, unpD_2, unpD_3, unpD_4, bAll_2, oIx_s, oIx_l, oIx_t, oSl_s, oSl_l, oSl_t, oNe_ln, oEq_ln, Option.bind_some, Option.bind_none, Option.map_some, Option.map_none, List.set_cons_zero, List.set_cons_succ, List.map_cons, List.map_nil, List.replicate_succ, List.replicate_zero, List.cons_append, List.nil_append, List.length_cons, List.length_nil, if_true, if_false, Bool.not_true, Bool.not_false, Bool.false_eq_true, reduceIte, decide_true, decide_false, Bool.true_and, Bool.false_and, Bool.and_true, Bool.and_false, Nat.reduceLeDiff, Nat.reduceAdd, Nat.zero_add, and_self, and_true, true_and, and_false, false_and]
def ddN : List Nat → List Nat
  | [] => []
  | x :: r => if x ∈ r then ddN r else x :: ddN r
theorem ddS_map {f : Nat → Str} (inj : ∀ a b, f a = f b → a = b) : ∀ l : List Nat, ddS (l.map f) = (ddN l).map f
  | [] => rfl
  | x :: r => by
    rw [List.map_cons, ddS, ddN, ddS_map inj r]
    by_cases h : x ∈ r
    · rw [if_pos h, if_pos (List.mem_map_of_mem h)]
    · rw [if_neg h, if_neg fun h' => by
        obtain ⟨y, hy, e⟩ := List.mem_map.mp h'
        rw [inj y x e] at hy
        exact h hy, List.map_cons]
theorem lenSet_col {α : Type} {R : List α} {f : α → Nat} (h0 : 1 ≤ R.length) (h1 : R.length ≤ 1000) : bLenSetA (.list (R.map fun w => ps [f w])) = some (nD (ddN (R.map f)).length) := by
  have hi : intsOf (R.map fun w => ps [f w]) = none := by
    cases R with
    | nil => simp at h0
    | cons x r => rfl
  simp only [bLenSetA, hi, strsOf_map]
  show (if _ then _ else none) = _
  rw [if_pos (by rw [List.length_map]; exact h1)]
  have e : (R.map fun w => (⟨[f w].toArray⟩ : Str)) = (R.map f).map fun n => (⟨[n].toArray⟩ : Str) := by
    rw [List.map_map]
    rfl
  rw [e, ddS_map (fun a b e => by
    have := (Str.mk.inj e)
    simpa using this), List.length_map]
def lo (R : List (List Nat)) (m : Nat) : List Nat := (List.range m).filter fun j => decide ((ddN (R.map fun w => w.getD j 0)).length = 1)
theorem law_loose_t {R : List (List Nat)} {m : Nat} {c : Cup} (h0 : 1 ≤ R.length) (h1 : R.length ≤ 1000) (hm : m ≤ 1000) (hr : ∀ w ∈ R, w.length = m) : m__law_loose [wD R] c = some (.list ((lo R m).map nD), c) := by
  obtain ⟨x, r, rfl⟩ : ∃ x r, R = x :: r := by
    cases R with
    | nil => simp at h0
    | cons x r => exact ⟨x, r, rfl⟩
  have hx := hr x List.mem_cons_self
  have ha : atI ((x :: r).map ps) 0 = some (ps x) := by
    rw [atI_lt (by omega) (by rw [List.length_map, List.length_cons]; omega)]
    rfl
  have hle : (rangeD 0 m).length ≤ 16777216 := by rw [rangeD_len]; omega
  have hle2 : ((x :: r).map ps).length ≤ 16777216 := by rw [List.length_map]; omega
  generalize x :: r = R at *
  unfold m__law_loose b__law_loose
  simp -implicitDefEqProofs (disch := (first | omega | assumption | (simp only [List.length_append, List.length_map, rangeD_len, List.length_cons, List.length_nil, List.length_range, List.length_reverse]; omega))) only [sVar_0, sVar_1, sVar_2, sVar_3, sVar_4, sVar_5, sVar_6, sVar_7, sVar_8, sVar_9, sVar_10, sVar_11, sVar_12, sVar_13, sVar_14, sVar_15, sVar_16, sVar_17, sVar_18, sVar_19, sVar_20, sVar_21, sVar_22, sVar_23, sVar_24, sVar_25, sVar_26, sVar_27, sVar_28, sVar_29, sVar_30, sVar_31, sVar_32, sVar_33, sVar_34, sC_e, sDct_e, bSortedA_l, bSortedA_t, bSortedA_s, sOp_e, sU_e, sB_b, boolD_b, sAnd_e, sOr_e, sNot_e, sAndV_e, sOrV_e, sNotV_e, sIf_e, sNeg_e, negD_i, sCall_e, sNil_e, sCons_e, sTup_e, sLst_e, sIsi_e, sNoP_e, sPart_e, intD_i, sSl_e, sCup0_e, sCup1_e, sChain_e, sSkip_e, sSeq_e, thenO_nx, thenO_rt, thenO_bk, thenO_ct, sDrop_e, sRet_e, sRetN_e, sIte_e, sSet_e, sSets_e, setAll_nil, setAll_cons, sApp_e, sExt_e, sPut_e, sAug_e, sAugI_e, sPut0_e, sPut1_e, put0_i, put1_i, sFor_e, sItems_e, sRange1_e, range1_i, sRange2_e, sComp_e, tgN_e, wipeE_nil, wipeE_cons, sYes_e, runD_e, outR_rt, outR_nx, env0_t, env0_f, oAdd_i, oAdd_s, oAdd_l, oAdd_t, oAddL_l, oSub_i, oMul_i, oMul_s, oMul_l, oMulL_l, oMul_t, oDiv_i, oMod_i, oLt_i, oLe_i, oLt_s, oLe_s, oGt_i, oGe_i, oEq_i, oNe_i, oEq_s, oNe_s, oIs_n, oIsNot_n, oIs_b, oIn_s, bLen_l, bLen_t, bLen_s, bInt_i, bStr_s, bTuple_l, bTuple_t, bList_l, bList_t, itemsOf_l, itemsOf_t, itemsOf_s, isTy, isNonB, bTupleA_l, bTupleA_t, bTupleA_s, bListA_l, bListA_t, bListA_s, bRev_l, bRev_t, bRev_s, mCount_s, sZip_e, sEnum_e, sComp2_e, sLstR_e, sTupR_e, tgTup2_e, sUnp_e, unpD_2, unpD_3, unpD_4, bAll_2, oIx_s, oIx_l, oIx_t, oSl_s, oSl_l, oSl_t, oNe_ln, oEq_ln, Option.bind_some, Option.bind_none, Option.map_some, Option.map_none, List.set_cons_zero, List.set_cons_succ, List.map_cons, List.map_nil, List.replicate_succ, List.replicate_zero, List.cons_append, List.nil_append, List.length_cons, List.length_nil, if_true, if_false, Bool.not_true, Bool.not_false, Bool.false_eq_true, reduceIte, decide_true, decide_false, Bool.true_and, Bool.false_and, Bool.and_true, Bool.and_false, Nat.reduceLeDiff, Nat.reduceAdd, Nat.zero_add, and_self, and_true, true_and, and_false, false_and, ha, hx, Int.toNat_natCast, hle]
  rw [rangeD_nat, compD_filterA (h := nD) (g := nD) (p := fun j => decide ((ddN (R.map fun w => w.getD j 0)).length = 1)) (fun j hj => by
    rw [List.mem_range] at hj
    refine ⟨_, rfl, ?_, fun _ => by simp -implicitDefEqProofs (disch := (first | omega | assumption | (simp only [List.length_append, List.length_map, rangeD_len, List.length_cons, List.length_nil, List.length_range, List.length_reverse]; omega))) only [sVar_0, sVar_1, sVar_2, sVar_3, sVar_4, sVar_5, sVar_6, sVar_7, sVar_8, sVar_9, sVar_10, sVar_11, sVar_12, sVar_13, sVar_14, sVar_15, sVar_16, sVar_17, sVar_18, sVar_19, sVar_20, sVar_21, sVar_22, sVar_23, sVar_24, sVar_25, sVar_26, sVar_27, sVar_28, sVar_29, sVar_30, sVar_31, sVar_32, sVar_33, sVar_34, sC_e, sDct_e, bSortedA_l, bSortedA_t, bSortedA_s, sOp_e, sU_e, sB_b, boolD_b, sAnd_e, sOr_e, sNot_e, sAndV_e, sOrV_e, sNotV_e, sIf_e, sNeg_e, negD_i, sCall_e, sNil_e, sCons_e, sTup_e, sLst_e, sIsi_e, sNoP_e, sPart_e, intD_i, sSl_e, sCup0_e, sCup1_e, sChain_e, sSkip_e, sSeq_e, thenO_nx, thenO_rt, thenO_bk, thenO_ct, sDrop_e, sRet_e, sRetN_e, sIte_e, sSet_e, sSets_e, setAll_nil, setAll_cons, sApp_e, sExt_e, sPut_e, sAug_e, sAugI_e, sPut0_e, sPut1_e, put0_i, put1_i, sFor_e, sItems_e, sRange1_e, range1_i, sRange2_e, sComp_e, tgN_e, wipeE_nil, wipeE_cons, sYes_e, runD_e, outR_rt, outR_nx, env0_t, env0_f, oAdd_i, oAdd_s, oAdd_l, oAdd_t, oAddL_l, oSub_i, oMul_i, oMul_s, oMul_l, oMulL_l, oMul_t, oDiv_i, oMod_i, oLt_i, oLe_i, oLt_s, oLe_s, oGt_i, oGe_i, oEq_i, oNe_i, oEq_s, oNe_s, oIs_n, oIsNot_n, oIs_b, oIn_s, bLen_l, bLen_t, bLen_s, bInt_i, bStr_s, bTuple_l, bTuple_t, bList_l, bList_t, itemsOf_l, itemsOf_t, itemsOf_s, isTy, isNonB, bTupleA_l, bTupleA_t, bTupleA_s, bListA_l, bListA_t, bListA_s, bRev_l, bRev_t, bRev_s, mCount_s, sZip_e, sEnum_e, sComp2_e, sLstR_e, sTupR_e, tgTup2_e, sUnp_e, unpD_2, unpD_3, unpD_4, bAll_2, oIx_s, oIx_l, oIx_t, oSl_s, oSl_l, oSl_t, oNe_ln, oEq_ln, Option.bind_some, Option.bind_none, Option.map_some, Option.map_none, List.set_cons_zero, List.set_cons_succ, List.map_cons, List.map_nil, List.replicate_succ, List.replicate_zero, List.cons_append, List.nil_append, List.length_cons, List.length_nil, if_true, if_false, Bool.not_true, Bool.not_false, Bool.false_eq_true, reduceIte, decide_true, decide_false, Bool.true_and, Bool.false_and, Bool.and_true, Bool.and_false, Nat.reduceLeDiff, Nat.reduceAdd, Nat.zero_add, and_self, and_true, true_and, and_false, false_and]⟩
    simp -implicitDefEqProofs (disch := (first | omega | assumption | (simp only [List.length_append, List.length_map, rangeD_len, List.length_cons, List.length_nil, List.length_range, List.length_reverse]; omega))) only [sVar_0, sVar_1, sVar_2, sVar_3, sVar_4, sVar_5, sVar_6, sVar_7, sVar_8, sVar_9, sVar_10, sVar_11, sVar_12, sVar_13, sVar_14, sVar_15, sVar_16, sVar_17, sVar_18, sVar_19, sVar_20, sVar_21, sVar_22, sVar_23, sVar_24, sVar_25, sVar_26, sVar_27, sVar_28, sVar_29, sVar_30, sVar_31, sVar_32, sVar_33, sVar_34, sC_e, sDct_e, bSortedA_l, bSortedA_t, bSortedA_s, sOp_e, sU_e, sB_b, boolD_b, sAnd_e, sOr_e, sNot_e, sAndV_e, sOrV_e, sNotV_e, sIf_e, sNeg_e, negD_i, sCall_e, sNil_e, sCons_e, sTup_e, sLst_e, sIsi_e, sNoP_e, sPart_e, intD_i, sSl_e, sCup0_e, sCup1_e, sChain_e, sSkip_e, sSeq_e, thenO_nx, thenO_rt, thenO_bk, thenO_ct, sDrop_e, sRet_e, sRetN_e, sIte_e, sSet_e, sSets_e, setAll_nil, setAll_cons, sApp_e, sExt_e, sPut_e, sAug_e, sAugI_e, sPut0_e, sPut1_e, put0_i, put1_i, sFor_e, sItems_e, sRange1_e, range1_i, sRange2_e, sComp_e, tgN_e, wipeE_nil, wipeE_cons, sYes_e, runD_e, outR_rt, outR_nx, env0_t, env0_f, oAdd_i, oAdd_s, oAdd_l, oAdd_t, oAddL_l, oSub_i, oMul_i, oMul_s, oMul_l, oMulL_l, oMul_t, oDiv_i, oMod_i, oLt_i, oLe_i, oLt_s, oLe_s, oGt_i, oGe_i, oEq_i, oNe_i, oEq_s, oNe_s, oIs_n, oIsNot_n, oIs_b, oIn_s, bLen_l, bLen_t, bLen_s, bInt_i, bStr_s, bTuple_l, bTuple_t, bList_l, bList_t, itemsOf_l, itemsOf_t, itemsOf_s, isTy, isNonB, bTupleA_l, bTupleA_t, bTupleA_s, bListA_l, bListA_t, bListA_s, bRev_l, bRev_t, bRev_s, mCount_s, sZip_e, sEnum_e, sComp2_e, sLstR_e, sTupR_e, tgTup2_e, sUnp_e, unpD_2, unpD_3, unpD_4, bAll_2, oIx_s, oIx_l, oIx_t, oSl_s, oSl_l, oSl_t, oNe_ln, oEq_ln, Option.bind_some, Option.bind_none, Option.map_some, Option.map_none, List.set_cons_zero, List.set_cons_succ, List.map_cons, List.map_nil, List.replicate_succ, List.replicate_zero, List.cons_append, List.nil_append, List.length_cons, List.length_nil, if_true, if_false, Bool.not_true, Bool.not_false, Bool.false_eq_true, reduceIte, decide_true, decide_false, Bool.true_and, Bool.false_and, Bool.and_true, Bool.and_false, Nat.reduceLeDiff, Nat.reduceAdd, Nat.zero_add, and_self, and_true, true_and, and_false, false_and, hle2]
    rw [compD_mapA (h := ps) (g := fun w => ps [w.getD j 0]) (fun w hw => ⟨_, rfl, by
      have := atI_mpS (l := w) (j := j) (x := 0) (by rw [hr w hw]; exact hj)
      simp -implicitDefEqProofs (disch := (first | omega | assumption | (simp only [List.length_append, List.length_map, rangeD_len, List.length_cons, List.length_nil, List.length_range, List.length_reverse]; omega))) only [sVar_0, sVar_1, sVar_2, sVar_3, sVar_4, sVar_5, sVar_6, sVar_7, sVar_8, sVar_9, sVar_10, sVar_11, sVar_12, sVar_13, sVar_14, sVar_15, sVar_16, sVar_17, sVar_18, sVar_19, sVar_20, sVar_21, sVar_22, sVar_23, sVar_24, sVar_25, sVar_26, sVar_27, sVar_28, sVar_29, sVar_30, sVar_31, sVar_32, sVar_33, sVar_34, sC_e, sDct_e, bSortedA_l, bSortedA_t, bSortedA_s, sOp_e, sU_e, sB_b, boolD_b, sAnd_e, sOr_e, sNot_e, sAndV_e, sOrV_e, sNotV_e, sIf_e, sNeg_e, negD_i, sCall_e, sNil_e, sCons_e, sTup_e, sLst_e, sIsi_e, sNoP_e, sPart_e, intD_i, sSl_e, sCup0_e, sCup1_e, sChain_e, sSkip_e, sSeq_e, thenO_nx, thenO_rt, thenO_bk, thenO_ct, sDrop_e, sRet_e, sRetN_e, sIte_e, sSet_e, sSets_e, setAll_nil, setAll_cons, sApp_e, sExt_e, sPut_e, sAug_e, sAugI_e, sPut0_e, sPut1_e, put0_i, put1_i, sFor_e, sItems_e, sRange1_e, range1_i, sRange2_e, sComp_e, tgN_e, wipeE_nil, wipeE_cons, sYes_e, runD_e, outR_rt, outR_nx, env0_t, env0_f, oAdd_i, oAdd_s, oAdd_l, oAdd_t, oAddL_l, oSub_i, oMul_i, oMul_s, oMul_l, oMulL_l, oMul_t, oDiv_i, oMod_i, oLt_i, oLe_i, oLt_s, oLe_s, oGt_i, oGe_i, oEq_i, oNe_i, oEq_s, oNe_s, oIs_n, oIsNot_n, oIs_b, oIn_s, bLen_l, bLen_t, bLen_s, bInt_i, bStr_s, bTuple_l, bTuple_t, bList_l, bList_t, itemsOf_l, itemsOf_t, itemsOf_s, isTy, isNonB, bTupleA_l, bTupleA_t, bTupleA_s, bListA_l, bListA_t, bListA_s, bRev_l, bRev_t, bRev_s, mCount_s, sZip_e, sEnum_e, sComp2_e, sLstR_e, sTupR_e, tgTup2_e, sUnp_e, unpD_2, unpD_3, unpD_4, bAll_2, oIx_s, oIx_l, oIx_t, oSl_s, oSl_l, oSl_t, oNe_ln, oEq_ln, Option.bind_some, Option.bind_none, Option.map_some, Option.map_none, List.set_cons_zero, List.set_cons_succ, List.map_cons, List.map_nil, List.replicate_succ, List.replicate_zero, List.cons_append, List.nil_append, List.length_cons, List.length_nil, if_true, if_false, Bool.not_true, Bool.not_false, Bool.false_eq_true, reduceIte, decide_true, decide_false, Bool.true_and, Bool.false_and, Bool.and_true, Bool.and_false, Nat.reduceLeDiff, Nat.reduceAdd, Nat.zero_add, and_self, and_true, true_and, and_false, false_and, this]⟩)]
    have e : decide ((((ddN (R.map fun w => w.getD j 0)).length : Nat) : Int) = 1) = decide ((ddN (R.map fun w => w.getD j 0)).length = 1) := decide_eq_decide.mpr (by omega)
    simp -implicitDefEqProofs (disch := (first | omega | assumption | (simp only [List.length_append, List.length_map, rangeD_len, List.length_cons, List.length_nil, List.length_range, List.length_reverse]; omega))) only [sVar_0, sVar_1, sVar_2, sVar_3, sVar_4, sVar_5, sVar_6, sVar_7, sVar_8, sVar_9, sVar_10, sVar_11, sVar_12, sVar_13, sVar_14, sVar_15, sVar_16, sVar_17, sVar_18, sVar_19, sVar_20, sVar_21, sVar_22, sVar_23, sVar_24, sVar_25, sVar_26, sVar_27, sVar_28, sVar_29, sVar_30, sVar_31, sVar_32, sVar_33, sVar_34, sC_e, sDct_e, bSortedA_l, bSortedA_t, bSortedA_s, sOp_e, sU_e, sB_b, boolD_b, sAnd_e, sOr_e, sNot_e, sAndV_e, sOrV_e, sNotV_e, sIf_e, sNeg_e, negD_i, sCall_e, sNil_e, sCons_e, sTup_e, sLst_e, sIsi_e, sNoP_e, sPart_e, intD_i, sSl_e, sCup0_e, sCup1_e, sChain_e, sSkip_e, sSeq_e, thenO_nx, thenO_rt, thenO_bk, thenO_ct, sDrop_e, sRet_e, sRetN_e, sIte_e, sSet_e, sSets_e, setAll_nil, setAll_cons, sApp_e, sExt_e, sPut_e, sAug_e, sAugI_e, sPut0_e, sPut1_e, put0_i, put1_i, sFor_e, sItems_e, sRange1_e, range1_i, sRange2_e, sComp_e, tgN_e, wipeE_nil, wipeE_cons, sYes_e, runD_e, outR_rt, outR_nx, env0_t, env0_f, oAdd_i, oAdd_s, oAdd_l, oAdd_t, oAddL_l, oSub_i, oMul_i, oMul_s, oMul_l, oMulL_l, oMul_t, oDiv_i, oMod_i, oLt_i, oLe_i, oLt_s, oLe_s, oGt_i, oGe_i, oEq_i, oNe_i, oEq_s, oNe_s, oIs_n, oIsNot_n, oIs_b, oIn_s, bLen_l, bLen_t, bLen_s, bInt_i, bStr_s, bTuple_l, bTuple_t, bList_l, bList_t, itemsOf_l, itemsOf_t, itemsOf_s, isTy, isNonB, bTupleA_l, bTupleA_t, bTupleA_s, bListA_l, bListA_t, bListA_s, bRev_l, bRev_t, bRev_s, mCount_s, sZip_e, sEnum_e, sComp2_e, sLstR_e, sTupR_e, tgTup2_e, sUnp_e, unpD_2, unpD_3, unpD_4, bAll_2, oIx_s, oIx_l, oIx_t, oSl_s, oSl_l, oSl_t, oNe_ln, oEq_ln, Option.bind_some, Option.bind_none, Option.map_some, Option.map_none, List.set_cons_zero, List.set_cons_succ, List.map_cons, List.map_nil, List.replicate_succ, List.replicate_zero, List.cons_append, List.nil_append, List.length_cons, List.length_nil, if_true, if_false, Bool.not_true, Bool.not_false, Bool.false_eq_true, reduceIte, decide_true, decide_false, Bool.true_and, Bool.false_and, Bool.and_true, Bool.and_false, Nat.reduceLeDiff, Nat.reduceAdd, Nat.zero_add, and_self, and_true, true_and, and_false, false_and, lenSet_col h0 h1, e])]
  simp -implicitDefEqProofs (disch := (first | omega | assumption | (simp only [List.length_append, List.length_map, rangeD_len, List.length_cons, List.length_nil, List.length_range, List.length_reverse]; omega))) only [sVar_0, sVar_1, sVar_2, sVar_3, sVar_4, sVar_5, sVar_6, sVar_7, sVar_8, sVar_9, sVar_10, sVar_11, sVar_12, sVar_13, sVar_14, sVar_15, sVar_16, sVar_17, sVar_18, sVar_19, sVar_20, sVar_21, sVar_22, sVar_23, sVar_24, sVar_25, sVar_26, sVar_27, sVar_28, sVar_29, sVar_30, sVar_31, sVar_32, sVar_33, sVar_34, sC_e, sDct_e, bSortedA_l, bSortedA_t, bSortedA_s, sOp_e, sU_e, sB_b, boolD_b, sAnd_e, sOr_e, sNot_e, sAndV_e, sOrV_e, sNotV_e, sIf_e, sNeg_e, negD_i, sCall_e, sNil_e, sCons_e, sTup_e, sLst_e, sIsi_e, sNoP_e, sPart_e, intD_i, sSl_e, sCup0_e, sCup1_e, sChain_e, sSkip_e, sSeq_e, thenO_nx, thenO_rt, thenO_bk, thenO_ct, sDrop_e, sRet_e, sRetN_e, sIte_e, sSet_e, sSets_e, setAll_nil, setAll_cons, sApp_e, sExt_e, sPut_e, sAug_e, sAugI_e, sPut0_e, sPut1_e, put0_i, put1_i, sFor_e, sItems_e, sRange1_e, range1_i, sRange2_e, sComp_e, tgN_e, wipeE_nil, wipeE_cons, sYes_e, runD_e, outR_rt, outR_nx, env0_t, env0_f, oAdd_i, oAdd_s, oAdd_l, oAdd_t, oAddL_l, oSub_i, oMul_i, oMul_s, oMul_l, oMulL_l, oMul_t, oDiv_i, oMod_i, oLt_i, oLe_i, oLt_s, oLe_s, oGt_i, oGe_i, oEq_i, oNe_i, oEq_s, oNe_s, oIs_n, oIsNot_n, oIs_b, oIn_s, bLen_l, bLen_t, bLen_s, bInt_i, bStr_s, bTuple_l, bTuple_t, bList_l, bList_t, itemsOf_l, itemsOf_t, itemsOf_s, isTy, isNonB, bTupleA_l, bTupleA_t, bTupleA_s, bListA_l, bListA_t, bListA_s, bRev_l, bRev_t, bRev_s, mCount_s, sZip_e, sEnum_e, sComp2_e, sLstR_e, sTupR_e, tgTup2_e, sUnp_e, unpD_2, unpD_3, unpD_4, bAll_2, oIx_s, oIx_l, oIx_t, oSl_s, oSl_l, oSl_t, oNe_ln, oEq_ln, Option.bind_some, Option.bind_none, Option.map_some, Option.map_none, List.set_cons_zero, List.set_cons_succ, List.map_cons, List.map_nil, List.replicate_succ, List.replicate_zero, List.cons_append, List.nil_append, List.length_cons, List.length_nil, if_true, if_false, Bool.not_true, Bool.not_false, Bool.false_eq_true, reduceIte, decide_true, decide_false, Bool.true_and, Bool.false_and, Bool.and_true, Bool.and_false, Nat.reduceLeDiff, Nat.reduceAdd, Nat.zero_add, and_self, and_true, true_and, and_false, false_and, lo]
theorem ddN_mem : ∀ {l : List Nat} {x : Nat}, x ∈ ddN l ↔ x ∈ l
  | [], x => Iff.rfl
  | y :: r, x => by
    unfold ddN
    split
    · rename_i h
      rw [ddN_mem, List.mem_cons]
      exact ⟨.inr, fun h2 => h2.elim (fun e => e ▸ h) id⟩
    · rw [List.mem_cons, List.mem_cons, ddN_mem]
theorem ddN_two {l : List Nat} {a b : Nat} (ha : a ∈ l) (hb : b ∈ l) (h : a ≠ b) : (ddN l).length ≠ 1 := fun e => by
  rw [← ddN_mem] at ha hb
  obtain ⟨z, hz⟩ := List.length_eq_one_iff.mp e
  rw [hz] at ha hb
  exact h ((List.mem_singleton.mp ha).trans (List.mem_singleton.mp hb).symm)
theorem ddN_same {x : Nat} : ∀ {l : List Nat}, (∀ y ∈ l, y = x) → l ≠ [] → ddN l = [x]
  | [], _, h => absurd rfl h
  | [y], h, _ => by rw [h y List.mem_cons_self]; rfl
  | y :: z :: r, h, _ => by
    have e1 := h y List.mem_cons_self
    have e2 := h z (List.mem_cons_of_mem _ List.mem_cons_self)
    rw [ddN, if_pos (by rw [e1, ← e2]; exact List.mem_cons_self)]
    exact ddN_same (fun v hv => h v (List.mem_cons_of_mem _ hv)) (by simp)
theorem ddN_few {l : List Nat} (hs : Sg l) (hne : l ≠ []) : decide ((ddN l).length < 2) = !(decide (105 ∈ l) && decide (111 ∈ l)) := by
  by_cases h1 : 105 ∈ l
  · by_cases h2 : 111 ∈ l
    · rw [decide_eq_true h1, decide_eq_true h2]
      refine decide_eq_false fun h => ?_
      have h3 := ddN_two h1 h2 (by decide)
      have h4 : ddN l ≠ [] := fun e => by
        have := ddN_mem.mpr h1
        rw [e] at this
        cases this
      have := List.length_pos_iff.mpr h4
      omega
    · rw [decide_eq_false h2, Bool.and_false, ddN_same (x := 105) (fun y hy => (hs y hy).resolve_right fun e => h2 (e ▸ hy)) hne]
      rfl
  · rw [decide_eq_false h1, Bool.false_and, ddN_same (x := 111) (fun y hy => (hs y hy).resolve_left fun e => h1 (e ▸ hy)) hne]
    rfl
theorem lw_sg : ∀ k, ∀ w ∈ lw k, Sg w
  | 0, w, h => by
    rw [List.mem_singleton.mp h]
    exact fun x hx => by cases hx
  | k + 1, w, h => by
    obtain ⟨v, hv, hl⟩ := List.mem_flatMap.mp h
    have ih := lw_sg k v hv
    simp only [List.mem_cons, List.not_mem_nil, or_false] at hl
    rcases hl with rfl | rfl
    · exact fun x hx => (List.mem_append.mp hx).elim (ih x) fun hx => .inl (List.mem_singleton.mp hx)
    · exact fun x hx => (List.mem_append.mp hx).elim (ih x) fun hx => .inr (List.mem_singleton.mp hx)
theorem words_in_t {n : Nat} {c : Cup} (hn : n ≤ 8) : m_words_in [nD n] c = some (.list ((lw n).map ps), c) := by
  unfold m_words_in b_words_in
  simp -implicitDefEqProofs (disch := (first | omega | assumption | (simp only [List.length_append, List.length_map, rangeD_len, List.length_cons, List.length_nil, List.length_range, List.length_reverse]; omega))) only [sVar_0, sVar_1, sVar_2, sVar_3, sVar_4, sVar_5, sVar_6, sVar_7, sVar_8, sVar_9, sVar_10, sVar_11, sVar_12, sVar_13, sVar_14, sVar_15, sVar_16, sVar_17, sVar_18, sVar_19, sVar_20, sVar_21, sVar_22, sVar_23, sVar_24, sVar_25, sVar_26, sVar_27, sVar_28, sVar_29, sVar_30, sVar_31, sVar_32, sVar_33, sVar_34, sC_e, sDct_e, bSortedA_l, bSortedA_t, bSortedA_s, sOp_e, sU_e, sB_b, boolD_b, sAnd_e, sOr_e, sNot_e, sAndV_e, sOrV_e, sNotV_e, sIf_e, sNeg_e, negD_i, sCall_e, sNil_e, sCons_e, sTup_e, sLst_e, sIsi_e, sNoP_e, sPart_e, intD_i, sSl_e, sCup0_e, sCup1_e, sChain_e, sSkip_e, sSeq_e, thenO_nx, thenO_rt, thenO_bk, thenO_ct, sDrop_e, sRet_e, sRetN_e, sIte_e, sSet_e, sSets_e, setAll_nil, setAll_cons, sApp_e, sExt_e, sPut_e, sAug_e, sAugI_e, sPut0_e, sPut1_e, put0_i, put1_i, sFor_e, sItems_e, sRange1_e, range1_i, sRange2_e, sComp_e, tgN_e, wipeE_nil, wipeE_cons, sYes_e, runD_e, outR_rt, outR_nx, env0_t, env0_f, oAdd_i, oAdd_s, oAdd_l, oAdd_t, oAddL_l, oSub_i, oMul_i, oMul_s, oMul_l, oMulL_l, oMul_t, oDiv_i, oMod_i, oLt_i, oLe_i, oLt_s, oLe_s, oGt_i, oGe_i, oEq_i, oNe_i, oEq_s, oNe_s, oIs_n, oIsNot_n, oIs_b, oIn_s, bLen_l, bLen_t, bLen_s, bInt_i, bStr_s, bTuple_l, bTuple_t, bList_l, bList_t, itemsOf_l, itemsOf_t, itemsOf_s, isTy, isNonB, bTupleA_l, bTupleA_t, bTupleA_s, bListA_l, bListA_t, bListA_s, bRev_l, bRev_t, bRev_s, mCount_s, sZip_e, sEnum_e, sComp2_e, sLstR_e, sTupR_e, tgTup2_e, sUnp_e, unpD_2, unpD_3, unpD_4, bAll_2, oIx_s, oIx_l, oIx_t, oSl_s, oSl_l, oSl_t, oNe_ln, oEq_ln, Option.bind_some, Option.bind_none, Option.map_some, Option.map_none, List.set_cons_zero, List.set_cons_succ, List.map_cons, List.map_nil, List.replicate_succ, List.replicate_zero, List.cons_append, List.nil_append, List.length_cons, List.length_nil, if_true, if_false, Bool.not_true, Bool.not_false, Bool.false_eq_true, reduceIte, decide_true, decide_false, Bool.true_and, Bool.false_and, Bool.and_true, Bool.and_false, Nat.reduceLeDiff, Nat.reduceAdd, Nat.zero_add, and_self, and_true, true_and, and_false, false_and, Int.toNat_natCast]
  obtain ⟨Γ2, c2, h1, rfl, x2, rfl⟩ := forD_range (tg := tgN 2) (lo := 0) (n := n) (b := b_words_in_1) (c := c)
    (fun i Γ c' => c' = c ∧ ∃ x2, Γ = [some (nD n), some (.list ((lw i).map ps)), x2, none, none])
    (fun i Γ c' hi ⟨hc, x2, hΓ⟩ => by
      subst hΓ hc
      have hp : 2 ^ i ≤ 2 ^ 8 := Nat.pow_le_pow_right (by omega) (by omega)
      refine ⟨_, [some (nD n), some (.list ((lw (i + 1)).map ps)), some (.int (0 + (i : Int))), none, none], c', rfl, .inl ?_, rfl, _, rfl⟩
      have hc2 : compD2 (tgN 3) sYes (sItems (sC (ps [105, 111]))) [4] (tgN 4) sYes (sOp oAdd (sVar 3) (sVar 4)) ((lw i).map ps) [some (nD n), some (.list ((lw i).map ps)), some (.int (0 + (i : Int))), none, none] c' = some (((lw i).map fun v => [ps (v ++ [105]), ps (v ++ [111])]).flatten, c') := by
        rw [compD2_mapA (h := ps) (os := fun v => [ps (v ++ [105]), ps (v ++ [111])]) (fun v hv => by
          have hvl := lw_row i v hv
          have ha : ∀ x, oAdd (ps v) (ps [x]) = some (ps (v ++ [x])) := fun x => oAdd_s (by rw [List.length_singleton]; omega)
          refine ⟨_, [ps [105], ps [111]], rfl, rfl, rfl, ?_⟩
          rw [show ([ps [105], ps [111]] : List D) = [105, 111].map fun x => ps [x] from rfl, compD_mapA (h := fun x => ps [x]) (g := fun x => ps (v ++ [x])) (fun x _ => ⟨_, rfl, by simp -implicitDefEqProofs (disch := (first | omega | assumption | (simp only [List.length_append, List.length_map, rangeD_len, List.length_cons, List.length_nil, List.length_range, List.length_reverse]; omega))) only [sVar_0, sVar_1, sVar_2, sVar_3, sVar_4, sVar_5, sVar_6, sVar_7, sVar_8, sVar_9, sVar_10, sVar_11, sVar_12, sVar_13, sVar_14, sVar_15, sVar_16, sVar_17, sVar_18, sVar_19, sVar_20, sVar_21, sVar_22, sVar_23, sVar_24, sVar_25, sVar_26, sVar_27, sVar_28, sVar_29, sVar_30, sVar_31, sVar_32, sVar_33, sVar_34, sC_e, sDct_e, bSortedA_l, bSortedA_t, bSortedA_s, sOp_e, sU_e, sB_b, boolD_b, sAnd_e, sOr_e, sNot_e, sAndV_e, sOrV_e, sNotV_e, sIf_e, sNeg_e, negD_i, sCall_e, sNil_e, sCons_e, sTup_e, sLst_e, sIsi_e, sNoP_e, sPart_e, intD_i, sSl_e, sCup0_e, sCup1_e, sChain_e, sSkip_e, sSeq_e, thenO_nx, thenO_rt, thenO_bk, thenO_ct, sDrop_e, sRet_e, sRetN_e, sIte_e, sSet_e, sSets_e, setAll_nil, setAll_cons, sApp_e, sExt_e, sPut_e, sAug_e, sAugI_e, sPut0_e, sPut1_e, put0_i, put1_i, sFor_e, sItems_e, sRange1_e, range1_i, sRange2_e, sComp_e, tgN_e, wipeE_nil, wipeE_cons, sYes_e, runD_e, outR_rt, outR_nx, env0_t, env0_f, oAdd_i, oAdd_s, oAdd_l, oAdd_t, oAddL_l, oSub_i, oMul_i, oMul_s, oMul_l, oMulL_l, oMul_t, oDiv_i, oMod_i, oLt_i, oLe_i, oLt_s, oLe_s, oGt_i, oGe_i, oEq_i, oNe_i, oEq_s, oNe_s, oIs_n, oIsNot_n, oIs_b, oIn_s, bLen_l, bLen_t, bLen_s, bInt_i, bStr_s, bTuple_l, bTuple_t, bList_l, bList_t, itemsOf_l, itemsOf_t, itemsOf_s, isTy, isNonB, bTupleA_l, bTupleA_t, bTupleA_s, bListA_l, bListA_t, bListA_s, bRev_l, bRev_t, bRev_s, mCount_s, sZip_e, sEnum_e, sComp2_e, sLstR_e, sTupR_e, tgTup2_e, sUnp_e, unpD_2, unpD_3, unpD_4, bAll_2, oIx_s, oIx_l, oIx_t, oSl_s, oSl_l, oSl_t, oNe_ln, oEq_ln, Option.bind_some, Option.bind_none, Option.map_some, Option.map_none, List.set_cons_zero, List.set_cons_succ, List.map_cons, List.map_nil, List.replicate_succ, List.replicate_zero, List.cons_append, List.nil_append, List.length_cons, List.length_nil, if_true, if_false, Bool.not_true, Bool.not_false, Bool.false_eq_true, reduceIte, decide_true, decide_false, Bool.true_and, Bool.false_and, Bool.and_true, Bool.and_false, Nat.reduceLeDiff, Nat.reduceAdd, Nat.zero_add, and_self, and_true, true_and, and_false, false_and, ha]⟩)]
          rfl)]
      have hfl : ((lw i).map fun v => [ps (v ++ [105]), ps (v ++ [111])]).flatten = (lw (i + 1)).map ps := by
        rw [lw, List.flatMap_def, List.map_flatten, List.map_map]
        rfl
      rw [hfl] at hc2
      have hlen : ((lw (i + 1)).map ps).length ≤ 16777216 := by
        have hp : 2 ^ (i + 1) ≤ 2 ^ 9 := Nat.pow_le_pow_right (by omega) (by omega)
        rw [List.length_map, lw_len]
        omega
      simp -implicitDefEqProofs (disch := (first | omega | assumption | (simp only [List.length_append, List.length_map, rangeD_len, List.length_cons, List.length_nil, List.length_range, List.length_reverse]; omega))) only [sVar_0, sVar_1, sVar_2, sVar_3, sVar_4, sVar_5, sVar_6, sVar_7, sVar_8, sVar_9, sVar_10, sVar_11, sVar_12, sVar_13, sVar_14, sVar_15, sVar_16, sVar_17, sVar_18, sVar_19, sVar_20, sVar_21, sVar_22, sVar_23, sVar_24, sVar_25, sVar_26, sVar_27, sVar_28, sVar_29, sVar_30, sVar_31, sVar_32, sVar_33, sVar_34, sC_e, sDct_e, bSortedA_l, bSortedA_t, bSortedA_s, sOp_e, sU_e, sB_b, boolD_b, sAnd_e, sOr_e, sNot_e, sAndV_e, sOrV_e, sNotV_e, sIf_e, sNeg_e, negD_i, sCall_e, sNil_e, sCons_e, sTup_e, sLst_e, sIsi_e, sNoP_e, sPart_e, intD_i, sSl_e, sCup0_e, sCup1_e, sChain_e, sSkip_e, sSeq_e, thenO_nx, thenO_rt, thenO_bk, thenO_ct, sDrop_e, sRet_e, sRetN_e, sIte_e, sSet_e, sSets_e, setAll_nil, setAll_cons, sApp_e, sExt_e, sPut_e, sAug_e, sAugI_e, sPut0_e, sPut1_e, put0_i, put1_i, sFor_e, sItems_e, sRange1_e, range1_i, sRange2_e, sComp_e, tgN_e, wipeE_nil, wipeE_cons, sYes_e, runD_e, outR_rt, outR_nx, env0_t, env0_f, oAdd_i, oAdd_s, oAdd_l, oAdd_t, oAddL_l, oSub_i, oMul_i, oMul_s, oMul_l, oMulL_l, oMul_t, oDiv_i, oMod_i, oLt_i, oLe_i, oLt_s, oLe_s, oGt_i, oGe_i, oEq_i, oNe_i, oEq_s, oNe_s, oIs_n, oIsNot_n, oIs_b, oIn_s, bLen_l, bLen_t, bLen_s, bInt_i, bStr_s, bTuple_l, bTuple_t, bList_l, bList_t, itemsOf_l, itemsOf_t, itemsOf_s, isTy, isNonB, bTupleA_l, bTupleA_t, bTupleA_s, bListA_l, bListA_t, bListA_s, bRev_l, bRev_t, bRev_s, mCount_s, sZip_e, sEnum_e, sComp2_e, sLstR_e, sTupR_e, tgTup2_e, sUnp_e, unpD_2, unpD_3, unpD_4, bAll_2, oIx_s, oIx_l, oIx_t, oSl_s, oSl_l, oSl_t, oNe_ln, oEq_ln, Option.bind_some, Option.bind_none, Option.map_some, Option.map_none, List.set_cons_zero, List.set_cons_succ, List.map_cons, List.map_nil, List.replicate_succ, List.replicate_zero, List.cons_append, List.nil_append, List.length_cons, List.length_nil, if_true, if_false, Bool.not_true, Bool.not_false, Bool.false_eq_true, reduceIte, decide_true, decide_false, Bool.true_and, Bool.false_and, Bool.and_true, Bool.and_false, Nat.reduceLeDiff, Nat.reduceAdd, Nat.zero_add, and_self, and_true, true_and, and_false, false_and, hc2, hlen]) (Γ := [some (nD n), some (.list [ps []]), none, none, none]) ⟨rfl, none, rfl⟩
  rw [h1]
  simp -implicitDefEqProofs (disch := (first | omega | assumption | (simp only [List.length_append, List.length_map, rangeD_len, List.length_cons, List.length_nil, List.length_range, List.length_reverse]; omega))) only [sVar_0, sVar_1, sVar_2, sVar_3, sVar_4, sVar_5, sVar_6, sVar_7, sVar_8, sVar_9, sVar_10, sVar_11, sVar_12, sVar_13, sVar_14, sVar_15, sVar_16, sVar_17, sVar_18, sVar_19, sVar_20, sVar_21, sVar_22, sVar_23, sVar_24, sVar_25, sVar_26, sVar_27, sVar_28, sVar_29, sVar_30, sVar_31, sVar_32, sVar_33, sVar_34, sC_e, sDct_e, bSortedA_l, bSortedA_t, bSortedA_s, sOp_e, sU_e, sB_b, boolD_b, sAnd_e, sOr_e, sNot_e, sAndV_e, sOrV_e, sNotV_e, sIf_e, sNeg_e, negD_i, sCall_e, sNil_e, sCons_e, sTup_e, sLst_e, sIsi_e, sNoP_e, sPart_e, intD_i, sSl_e, sCup0_e, sCup1_e, sChain_e, sSkip_e, sSeq_e, thenO_nx, thenO_rt, thenO_bk, thenO_ct, sDrop_e, sRet_e, sRetN_e, sIte_e, sSet_e, sSets_e, setAll_nil, setAll_cons, sApp_e, sExt_e, sPut_e, sAug_e, sAugI_e, sPut0_e, sPut1_e, put0_i, put1_i, sFor_e, sItems_e, sRange1_e, range1_i, sRange2_e, sComp_e, tgN_e, wipeE_nil, wipeE_cons, sYes_e, runD_e, outR_rt, outR_nx, env0_t, env0_f, oAdd_i, oAdd_s, oAdd_l, oAdd_t, oAddL_l, oSub_i, oMul_i, oMul_s, oMul_l, oMulL_l, oMul_t, oDiv_i, oMod_i, oLt_i, oLe_i, oLt_s, oLe_s, oGt_i, oGe_i, oEq_i, oNe_i, oEq_s, oNe_s, oIs_n, oIsNot_n, oIs_b, oIn_s, bLen_l, bLen_t, bLen_s, bInt_i, bStr_s, bTuple_l, bTuple_t, bList_l, bList_t, itemsOf_l, itemsOf_t, itemsOf_s, isTy, isNonB, bTupleA_l, bTupleA_t, bTupleA_s, bListA_l, bListA_t, bListA_s, bRev_l, bRev_t, bRev_s, mCount_s, sZip_e, sEnum_e, sComp2_e, sLstR_e, sTupR_e, tgTup2_e, sUnp_e, unpD_2, unpD_3, unpD_4, bAll_2, oIx_s, oIx_l, oIx_t, oSl_s, oSl_l, oSl_t, oNe_ln, oEq_ln, Option.bind_some, Option.bind_none, Option.map_some, Option.map_none, List.set_cons_zero, List.set_cons_succ, List.map_cons, List.map_nil, List.replicate_succ, List.replicate_zero, List.cons_append, List.nil_append, List.length_cons, List.length_nil, if_true, if_false, Bool.not_true, Bool.not_false, Bool.false_eq_true, reduceIte, decide_true, decide_false, Bool.true_and, Bool.false_and, Bool.and_true, Bool.and_false, Nat.reduceLeDiff, Nat.reduceAdd, Nat.zero_add, and_self, and_true, true_and, and_false, false_and]
theorem mul2l (a : Int) : oMul (.int 2) (.int a) = some (.int (2 * a)) := oMul_i (Or.inl ⟨by omega, by omega⟩)
def rowN (w : List Nat) (n r : Nat) : List Nat := (List.range n).map fun i => fz w (r * n + i)
theorem rowN_len (w : List Nat) (n r : Nat) : (rowN w n r).length = n := by unfold rowN; rw [List.length_map, List.length_range]
theorem rowN_gone (w : List Nat) (n r : Nat) : gone w n (r * n % w.length) = rowN w n r := by
  unfold gone rowN fz
  exact List.map_congr_left fun i _ => by rw [Nat.mod_add_mod]
theorem rowsOf_rowN (w : List Nat) (n k : Nat) : rowsOf w n k = (List.range k).map (rowN w n) := List.map_congr_left fun j _ => rowN_gone w n j
theorem rowN_at {w : List Nat} {n r i : Nat} (h : i < n) : (rowN w n r).getD i 0 = fz w (r * n + i) := by
  unfold rowN
  rw [List.getD_eq_getElem?_getD, List.getElem?_map, List.getElem?_range h]
  rfl
theorem rowN_sg {w : List Nat} {n r : Nat} (W : Word w) : Sg (rowN w n r) := by
  rw [← rowN_gone]
  exact gone_sg W.lo W.sg
theorem rowN_eq {w : List Nat} {n r q : Nat} : rowN w n r = rowN w n q ↔ ∀ i < n, fz w (r * n + i) = fz w (q * n + i) := map_range_eq
def uqW (R : List (List Nat)) : Nat := (ddS (R.map fun l => (⟨l.toArray⟩ : Str))).length
theorem uqW_eq {R Q : List (List Nat)} (h : ∀ x, x ∈ R ↔ x ∈ Q) : uqW R = uqW Q := by
  unfold uqW
  refine ((List.perm_ext_iff_of_nodup (ddS_nodup _) (ddS_nodup _)).mpr fun x => ?_).length_eq
  rw [ddS_mem, ddS_mem, List.mem_map, List.mem_map]
  exact ⟨fun ⟨y, hy, e⟩ => ⟨y, (h y).mp hy, e⟩, fun ⟨y, hy, e⟩ => ⟨y, (h y).mpr hy, e⟩⟩
theorem join_signs {l : List Nat} (h : l.length ≤ 1000) : mJoin (ps []) (.list (l.map fun x => ps [x])) = some (ps l) := by
  have e : (l.map fun x => ps [x]) = (l.map fun x => [x]).map ps := by rw [List.map_map]; rfl
  have hf : (l.map fun x => [x]).flatten = l := by
    clear h e
    induction l with
    | nil => rfl
    | cons x r ih => rw [List.map_cons, List.flatten_cons, ih]; rfl
  have := mJoin_strs (l := l.map fun x => [x]) (by rw [hf]; omega)
  rw [hf, ← e] at this
  exact this
theorem mul_n {a b : Nat} (h : b < 2 ^ 64) : oMul (nD a) (nD b) = some (nD (a * b)) := by
  rw [oMul_i (Or.inr ⟨by omega, by omega⟩)]
  exact congrArg (fun x => some (PyData.int x)) (by rw [Int.natCast_mul])
theorem mod_n {a b : Nat} (h : 0 < b) : oMod (nD a) (nD b) = some (nD (a % b)) := by
  rw [oMod_i (by omega)]
  exact congrArg (fun x => some (PyData.int x)) (by rw [Int.natCast_emod])
theorem div_n {a b : Nat} (h : 0 < b) (h2 : b < 1073741824) : oDiv (nD a) (nD b) = some (nD (a / b)) := by
  rw [oDiv_i ⟨by omega, by omega⟩]
  exact congrArg (fun x => some (PyData.int x)) (by rw [Int.natCast_ediv])
theorem add_n (a b : Nat) : oAdd (nD a) (nD b) = some (nD (a + b)) := oAdd_i
end Wk
set_option Elab.async false
set_option linter.all false
set_option maxRecDepth 3000
set_option maxHeartbeats 1000000
namespace Wk
open PySem PySem.Spec PyProof.Rows L2
/-! rows, columns, loose stakes -/
def RW (w : List Nat) (n h : Nat) : List (List Nat) := (List.range h).map (rowN w n)
theorem RW_len (w : List Nat) (n h : Nat) : (RW w n h).length = h := by unfold RW; rw [List.length_map, List.length_range]
theorem RW_row {w : List Nat} {n h : Nat} : ∀ l ∈ RW w n h, l.length = n := fun l hl => by
  obtain ⟨r, _, rfl⟩ := List.mem_map.mp hl
  exact rowN_len w n r
def col (w : List Nat) (n h t : Nat) : List Nat := (List.range h).map fun r => fz w (r * n + t)
theorem RW_col {w : List Nat} {n h t : Nat} (ht : t < n) : (RW w n h).map (fun l => l.getD t 0) = col w n h t := by
  unfold RW col
  rw [List.map_map]
  exact List.map_congr_left fun r _ => rowN_at ht
def mx (w : List Nat) (n h t : Nat) : Bool := decide (105 ∈ col w n h t) && decide (111 ∈ col w n h t)
def lz (w : List Nat) (n h : Nat) : List Nat := (List.range n).filter fun t => !mx w n h t
theorem fz_sg {w : List Nat} (W : Word w) (i : Nat) : fz w i = 105 ∨ fz w i = 111 := W.sg _ (getD_mem (Nat.mod_lt _ W.lo))
theorem col_sg {w : List Nat} {n h t : Nat} (W : Word w) : Sg (col w n h t) := fun x hx => by
  obtain ⟨r, _, rfl⟩ := List.mem_map.mp hx
  exact fz_sg W _
theorem col_ne {w : List Nat} {n h t : Nat} (h0 : 1 ≤ h) : col w n h t ≠ [] := fun e => by
  have := congrArg List.length e
  unfold col at this
  rw [List.length_map, List.length_range, List.length_nil] at this
  omega
theorem lo_lz {w : List Nat} {n h : Nat} (W : Word w) (h0 : 1 ≤ h) : lo (RW w n h) n = lz w n h := by
  unfold lo lz
  refine List.filter_congr fun t ht => ?_
  rw [List.mem_range] at ht
  rw [RW_col ht]
  have h1 := ddN_few (col_sg W) (col_ne (w := w) (n := n) (t := t) h0)
  have h2 : 1 ≤ (ddN (col w n h t)).length := by
    obtain ⟨x, r, e⟩ := List.exists_cons_of_ne_nil (col_ne (w := w) (n := n) (t := t) h0)
    have := ddN_mem.mpr (show x ∈ col w n h t by rw [e]; exact List.mem_cons_self)
    exact List.length_pos_of_mem this
  unfold mx
  rw [← h1]
  exact decide_eq_decide.mpr (by omega)
theorem fz_far {w : List Nat} (n r t : Nat) : fz w (r * n + t) = fz w (r % w.length * n + t) := by
  unfold fz
  have e : r * n % w.length = r % w.length * n % w.length := by simp [Nat.mul_mod]
  rw [Nat.add_mod, e, ← Nat.add_mod]
theorem mx_far {w : List Nat} {n h t : Nat} (w0 : 1 ≤ w.length) (hh : w.length ≤ h) : mx w n h t = mx w n w.length t := by
  have key : ∀ x, x ∈ col w n h t ↔ x ∈ col w n w.length t := fun x => by
    unfold col
    rw [List.mem_map, List.mem_map]
    constructor
    · rintro ⟨r, hr, rfl⟩
      exact ⟨r % w.length, List.mem_range.mpr (Nat.mod_lt _ w0), (fz_far n r t).symm⟩
    · rintro ⟨r, hr, rfl⟩
      rw [List.mem_range] at hr
      exact ⟨r, List.mem_range.mpr (by omega), rfl⟩
  unfold mx
  rw [decide_eq_decide.mpr (key 105), decide_eq_decide.mpr (key 111)]
theorem lz_far {w : List Nat} {n h : Nat} (w0 : 1 ≤ w.length) (hh : w.length ≤ h) : lz w n h = lz w n w.length := List.filter_congr fun t _ => by rw [mx_far w0 hh]
theorem mx_one {w : List Nat} {n t : Nat} : mx w n 1 t = false := by
  unfold mx col
  by_cases e : fz w (0 * n + t) = 105
  · have : decide (111 ∈ (List.range 1).map fun r => fz w (r * n + t)) = false := decide_eq_false (by
      rw [show List.range 1 = [0] from rfl, List.map_singleton, List.mem_singleton, e]
      decide)
    rw [this, Bool.and_false]
  · have : decide (105 ∈ (List.range 1).map fun r => fz w (r * n + t)) = false := decide_eq_false (by
      rw [show List.range 1 = [0] from rfl, List.map_singleton, List.mem_singleton]
      exact fun h => e h.symm)
    rw [this, Bool.false_and]
theorem lz_one {w : List Nat} {n : Nat} : lz w n 1 = List.range n := List.filter_eq_self.mpr fun t _ => by rw [mx_one]; rfl
theorem uq_far {w : List Nat} {n h : Nat} (w0 : 1 ≤ w.length) (hh : w.length ≤ h) : uqW (RW w n h) = uqW (RW w n w.length) := by
  refine uqW_eq fun x => ?_
  unfold RW
  rw [List.mem_map, List.mem_map]
  constructor
  · rintro ⟨r, hr, rfl⟩
    exact ⟨r % w.length, List.mem_range.mpr (Nat.mod_lt _ w0), rowN_eq.mpr fun i _ => (fz_far n r i).symm⟩
  · rintro ⟨r, hr, rfl⟩
    rw [List.mem_range] at hr
    exact ⟨r, List.mem_range.mpr (by omega), rfl⟩
def ho (w : List Nat) (n h : Nat) : Bool := (lz w n h).isEmpty
theorem ho_all {w : List Nat} {n h : Nat} : ho w n h = (List.range n).all (mx w n h) := filter_empty _ _
/-- the first number of rounds that holds, of four and twenty, is one of the word's -/
theorem find_far {w : List Nat} {n : Nat} (w0 : 1 ≤ w.length) (w1 : w.length ≤ 24) : (upto 24).find? (ho w n) = (upto w.length).find? (ho w n) := by
  cases e : (upto w.length).find? (ho w n) with
  | some s =>
    obtain ⟨h1, h2, h3, h4⟩ := find_upto e
    exact find_of h2 (by omega) h1 h4
  | none =>
    rw [List.find?_eq_none] at e ⊢
    intro k hk
    have hk := upto_mem hk
    by_cases h : k ≤ w.length
    · exact e k (List.mem_map.mpr ⟨k - 1, List.mem_range.mpr (by omega), by omega⟩)
    · have := e w.length (List.mem_map.mpr ⟨w.length - 1, List.mem_range.mpr (by omega), by omega⟩)
      unfold ho at this ⊢
      rw [lz_far w0 (by omega)]
      exact this
/-! what the functions tell -/
theorem wound_in_t {w : List Nat} {n s : Nat} {c : Cup} (w0 : 1 ≤ w.length) (n1 : n ≤ 24) : m_wound_in [ps w, nD n, nD s] c = some (ps (gone w n s), c) := by
  have hle : (rangeD 0 n).length ≤ 16777216 := by rw [rangeD_len]; omega
  unfold m_wound_in b_wound_in
  simp -implicitDefEqProofs (disch := (first | omega | assumption | (simp only [List.length_append, List.length_map, rangeD_len, List.length_cons, List.length_nil, List.length_range, List.length_reverse]; omega))) only [sVar_0, sVar_1, sVar_2, sVar_3, sVar_4, sVar_5, sVar_6, sVar_7, sVar_8, sVar_9, sVar_10, sVar_11, sVar_12, sVar_13, sVar_14, sVar_15, sVar_16, sVar_17, sVar_18, sVar_19, sVar_20, sVar_21, sVar_22, sVar_23, sVar_24, sVar_25, sVar_26, sVar_27, sVar_28, sVar_29, sVar_30, sVar_31, sVar_32, sVar_33, sVar_34, sC_e, sDct_e, bSortedA_l, bSortedA_t, bSortedA_s, sOp_e, sU_e, sB_b, boolD_b, sAnd_e, sOr_e, sNot_e, sAndV_e, sOrV_e, sNotV_e, sIf_e, sNeg_e, negD_i, sCall_e, sNil_e, sCons_e, sTup_e, sLst_e, sIsi_e, sNoP_e, sPart_e, intD_i, sSl_e, sCup0_e, sCup1_e, sChain_e, sSkip_e, sSeq_e, thenO_nx, thenO_rt, thenO_bk, thenO_ct, sDrop_e, sRet_e, sRetN_e, sIte_e, sSet_e, sSets_e, setAll_nil, setAll_cons, sApp_e, sExt_e, sPut_e, sAug_e, sAugI_e, sPut0_e, sPut1_e, put0_i, put1_i, sFor_e, sItems_e, sRange1_e, range1_i, sRange2_e, sComp_e, tgN_e, wipeE_nil, wipeE_cons, sYes_e, runD_e, outR_rt, outR_nx, env0_t, env0_f, oAdd_i, oAdd_s, oAdd_l, oAdd_t, oAddL_l, oSub_i, oMul_i, oMul_s, oMul_l, oMulL_l, oMul_t, oDiv_i, oMod_i, oLt_i, oLe_i, oLt_s, oLe_s, oGt_i, oGe_i, oEq_i, oNe_i, oEq_s, oNe_s, oIs_n, oIsNot_n, oIs_b, oIn_s, bLen_l, bLen_t, bLen_s, bInt_i, bStr_s, bTuple_l, bTuple_t, bList_l, bList_t, itemsOf_l, itemsOf_t, itemsOf_s, isTy, isNonB, bTupleA_l, bTupleA_t, bTupleA_s, bListA_l, bListA_t, bListA_s, bRev_l, bRev_t, bRev_s, mCount_s, sZip_e, sEnum_e, sComp2_e, sLstR_e, sTupR_e, tgTup2_e, sUnp_e, unpD_2, unpD_3, unpD_4, bAll_2, oIx_s, oIx_l, oIx_t, oSl_s, oSl_l, oSl_t, oNe_ln, oEq_ln, Option.bind_some, Option.bind_none, Option.map_some, Option.map_none, List.set_cons_zero, List.set_cons_succ, List.map_cons, List.map_nil, List.replicate_succ, List.replicate_zero, List.cons_append, List.nil_append, List.length_cons, List.length_nil, if_true, if_false, Bool.not_true, Bool.not_false, Bool.false_eq_true, reduceIte, decide_true, decide_false, Bool.true_and, Bool.false_and, Bool.and_true, Bool.and_false, Nat.reduceLeDiff, Nat.reduceAdd, Nat.zero_add, and_self, and_true, true_and, and_false, false_and, Int.toNat_natCast, hle]
  rw [rangeD_nat, compD_mapA (h := nD) (g := fun i => ps [w.getD ((s + i) % w.length) 0]) (fun i _ => ⟨_, rfl, by
    have h1 := add_n s i
    have h2 := mod_n (a := s + i) (b := w.length) (by omega)
    have h3 := atI_mpS (l := w) (j := (s + i) % w.length) (x := 0) (Nat.mod_lt _ (by omega))
    simp -implicitDefEqProofs (disch := (first | omega | assumption | (simp only [List.length_append, List.length_map, rangeD_len, List.length_cons, List.length_nil, List.length_range, List.length_reverse]; omega))) only [sVar_0, sVar_1, sVar_2, sVar_3, sVar_4, sVar_5, sVar_6, sVar_7, sVar_8, sVar_9, sVar_10, sVar_11, sVar_12, sVar_13, sVar_14, sVar_15, sVar_16, sVar_17, sVar_18, sVar_19, sVar_20, sVar_21, sVar_22, sVar_23, sVar_24, sVar_25, sVar_26, sVar_27, sVar_28, sVar_29, sVar_30, sVar_31, sVar_32, sVar_33, sVar_34, sC_e, sDct_e, bSortedA_l, bSortedA_t, bSortedA_s, sOp_e, sU_e, sB_b, boolD_b, sAnd_e, sOr_e, sNot_e, sAndV_e, sOrV_e, sNotV_e, sIf_e, sNeg_e, negD_i, sCall_e, sNil_e, sCons_e, sTup_e, sLst_e, sIsi_e, sNoP_e, sPart_e, intD_i, sSl_e, sCup0_e, sCup1_e, sChain_e, sSkip_e, sSeq_e, thenO_nx, thenO_rt, thenO_bk, thenO_ct, sDrop_e, sRet_e, sRetN_e, sIte_e, sSet_e, sSets_e, setAll_nil, setAll_cons, sApp_e, sExt_e, sPut_e, sAug_e, sAugI_e, sPut0_e, sPut1_e, put0_i, put1_i, sFor_e, sItems_e, sRange1_e, range1_i, sRange2_e, sComp_e, tgN_e, wipeE_nil, wipeE_cons, sYes_e, runD_e, outR_rt, outR_nx, env0_t, env0_f, oAdd_i, oAdd_s, oAdd_l, oAdd_t, oAddL_l, oSub_i, oMul_i, oMul_s, oMul_l, oMulL_l, oMul_t, oDiv_i, oMod_i, oLt_i, oLe_i, oLt_s, oLe_s, oGt_i, oGe_i, oEq_i, oNe_i, oEq_s, oNe_s, oIs_n, oIsNot_n, oIs_b, oIn_s, bLen_l, bLen_t, bLen_s, bInt_i, bStr_s, bTuple_l, bTuple_t, bList_l, bList_t, itemsOf_l, itemsOf_t, itemsOf_s, isTy, isNonB, bTupleA_l, bTupleA_t, bTupleA_s, bListA_l, bListA_t, bListA_s, bRev_l, bRev_t, bRev_s, mCount_s, sZip_e, sEnum_e, sComp2_e, sLstR_e, sTupR_e, tgTup2_e, sUnp_e, unpD_2, unpD_3, unpD_4, bAll_2, oIx_s, oIx_l, oIx_t, oSl_s, oSl_l, oSl_t, oNe_ln, oEq_ln, Option.bind_some, Option.bind_none, Option.map_some, Option.map_none, List.set_cons_zero, List.set_cons_succ, List.map_cons, List.map_nil, List.replicate_succ, List.replicate_zero, List.cons_append, List.nil_append, List.length_cons, List.length_nil, if_true, if_false, Bool.not_true, Bool.not_false, Bool.false_eq_true, reduceIte, decide_true, decide_false, Bool.true_and, Bool.false_and, Bool.and_true, Bool.and_false, Nat.reduceLeDiff, Nat.reduceAdd, Nat.zero_add, and_self, and_true, true_and, and_false, false_and, ↓h1, ↓h2, h3]⟩)]
  have hj := join_signs (l := gone w n s) (by rw [gone_len]; omega)
  unfold gone at hj
  rw [List.map_map] at hj
  have hj' : mJoin (ps []) (.list ((List.range n).map fun i => ps [w.getD ((s + i) % w.length) 0])) = some (ps (gone w n s)) := hj
  simp -implicitDefEqProofs (disch := (first | omega | assumption | (simp only [List.length_append, List.length_map, rangeD_len, List.length_cons, List.length_nil, List.length_range, List.length_reverse]; omega))) only [sVar_0, sVar_1, sVar_2, sVar_3, sVar_4, sVar_5, sVar_6, sVar_7, sVar_8, sVar_9, sVar_10, sVar_11, sVar_12, sVar_13, sVar_14, sVar_15, sVar_16, sVar_17, sVar_18, sVar_19, sVar_20, sVar_21, sVar_22, sVar_23, sVar_24, sVar_25, sVar_26, sVar_27, sVar_28, sVar_29, sVar_30, sVar_31, sVar_32, sVar_33, sVar_34, sC_e, sDct_e, bSortedA_l, bSortedA_t, bSortedA_s, sOp_e, sU_e, sB_b, boolD_b, sAnd_e, sOr_e, sNot_e, sAndV_e, sOrV_e, sNotV_e, sIf_e, sNeg_e, negD_i, sCall_e, sNil_e, sCons_e, sTup_e, sLst_e, sIsi_e, sNoP_e, sPart_e, intD_i, sSl_e, sCup0_e, sCup1_e, sChain_e, sSkip_e, sSeq_e, thenO_nx, thenO_rt, thenO_bk, thenO_ct, sDrop_e, sRet_e, sRetN_e, sIte_e, sSet_e, sSets_e, setAll_nil, setAll_cons, sApp_e, sExt_e, sPut_e, sAug_e, sAugI_e, sPut0_e, sPut1_e, put0_i, put1_i, sFor_e, sItems_e, sRange1_e, range1_i, sRange2_e, sComp_e, tgN_e, wipeE_nil, wipeE_cons, sYes_e, runD_e, outR_rt, outR_nx, env0_t, env0_f, oAdd_i, oAdd_s, oAdd_l, oAdd_t, oAddL_l, oSub_i, oMul_i, oMul_s, oMul_l, oMulL_l, oMul_t, oDiv_i, oMod_i, oLt_i, oLe_i, oLt_s, oLe_s, oGt_i, oGe_i, oEq_i, oNe_i, oEq_s, oNe_s, oIs_n, oIsNot_n, oIs_b, oIn_s, bLen_l, bLen_t, bLen_s, bInt_i, bStr_s, bTuple_l, bTuple_t, bList_l, bList_t, itemsOf_l, itemsOf_t, itemsOf_s, isTy, isNonB, bTupleA_l, bTupleA_t, bTupleA_s, bListA_l, bListA_t, bListA_s, bRev_l, bRev_t, bRev_s, mCount_s, sZip_e, sEnum_e, sComp2_e, sLstR_e, sTupR_e, tgTup2_e, sUnp_e, unpD_2, unpD_3, unpD_4, bAll_2, oIx_s, oIx_l, oIx_t, oSl_s, oSl_l, oSl_t, oNe_ln, oEq_ln, Option.bind_some, Option.bind_none, Option.map_some, Option.map_none, List.set_cons_zero, List.set_cons_succ, List.map_cons, List.map_nil, List.replicate_succ, List.replicate_zero, List.cons_append, List.nil_append, List.length_cons, List.length_nil, if_true, if_false, Bool.not_true, Bool.not_false, Bool.false_eq_true, reduceIte, decide_true, decide_false, Bool.true_and, Bool.false_and, Bool.and_true, Bool.and_false, Nat.reduceLeDiff, Nat.reduceAdd, Nat.zero_add, and_self, and_true, true_and, and_false, false_and, hj']
theorem rounds_in_t {w : List Nat} {n h : Nat} {c : Cup} (w0 : 1 ≤ w.length) (n1 : n ≤ 24) (h1 : h ≤ 40) : m_rounds_in [ps w, nD n, nD h] c = some (wD (RW w n h), c) := by
  have hle : (rangeD 0 h).length ≤ 16777216 := by rw [rangeD_len]; omega
  unfold m_rounds_in b_rounds_in
  simp -implicitDefEqProofs (disch := (first | omega | assumption | (simp only [List.length_append, List.length_map, rangeD_len, List.length_cons, List.length_nil, List.length_range, List.length_reverse]; omega))) only [sVar_0, sVar_1, sVar_2, sVar_3, sVar_4, sVar_5, sVar_6, sVar_7, sVar_8, sVar_9, sVar_10, sVar_11, sVar_12, sVar_13, sVar_14, sVar_15, sVar_16, sVar_17, sVar_18, sVar_19, sVar_20, sVar_21, sVar_22, sVar_23, sVar_24, sVar_25, sVar_26, sVar_27, sVar_28, sVar_29, sVar_30, sVar_31, sVar_32, sVar_33, sVar_34, sC_e, sDct_e, bSortedA_l, bSortedA_t, bSortedA_s, sOp_e, sU_e, sB_b, boolD_b, sAnd_e, sOr_e, sNot_e, sAndV_e, sOrV_e, sNotV_e, sIf_e, sNeg_e, negD_i, sCall_e, sNil_e, sCons_e, sTup_e, sLst_e, sIsi_e, sNoP_e, sPart_e, intD_i, sSl_e, sCup0_e, sCup1_e, sChain_e, sSkip_e, sSeq_e, thenO_nx, thenO_rt, thenO_bk, thenO_ct, sDrop_e, sRet_e, sRetN_e, sIte_e, sSet_e, sSets_e, setAll_nil, setAll_cons, sApp_e, sExt_e, sPut_e, sAug_e, sAugI_e, sPut0_e, sPut1_e, put0_i, put1_i, sFor_e, sItems_e, sRange1_e, range1_i, sRange2_e, sComp_e, tgN_e, wipeE_nil, wipeE_cons, sYes_e, runD_e, outR_rt, outR_nx, env0_t, env0_f, oAdd_i, oAdd_s, oAdd_l, oAdd_t, oAddL_l, oSub_i, oMul_i, oMul_s, oMul_l, oMulL_l, oMul_t, oDiv_i, oMod_i, oLt_i, oLe_i, oLt_s, oLe_s, oGt_i, oGe_i, oEq_i, oNe_i, oEq_s, oNe_s, oIs_n, oIsNot_n, oIs_b, oIn_s, bLen_l, bLen_t, bLen_s, bInt_i, bStr_s, bTuple_l, bTuple_t, bList_l, bList_t, itemsOf_l, itemsOf_t, itemsOf_s, isTy, isNonB, bTupleA_l, bTupleA_t, bTupleA_s, bListA_l, bListA_t, bListA_s, bRev_l, bRev_t, bRev_s, mCount_s, sZip_e, sEnum_e, sComp2_e, sLstR_e, sTupR_e, tgTup2_e, sUnp_e, unpD_2, unpD_3, unpD_4, bAll_2, oIx_s, oIx_l, oIx_t, oSl_s, oSl_l, oSl_t, oNe_ln, oEq_ln, Option.bind_some, Option.bind_none, Option.map_some, Option.map_none, List.set_cons_zero, List.set_cons_succ, List.map_cons, List.map_nil, List.replicate_succ, List.replicate_zero, List.cons_append, List.nil_append, List.length_cons, List.length_nil, if_true, if_false, Bool.not_true, Bool.not_false, Bool.false_eq_true, reduceIte, decide_true, decide_false, Bool.true_and, Bool.false_and, Bool.and_true, Bool.and_false, Nat.reduceLeDiff, Nat.reduceAdd, Nat.zero_add, and_self, and_true, true_and, and_false, false_and, Int.toNat_natCast, hle]
  rw [rangeD_nat, compD_mapA (h := nD) (g := fun r => ps (rowN w n r)) (fun r _ => ⟨_, rfl, by
    have h1 := mul_n (a := r) (b := n) (by omega)
    have h2 := mod_n (a := r * n) (b := w.length) (by omega)
    have h3 := wound_in_t (n := n) (s := r * n % w.length) (c := c) w0 n1
    rw [rowN_gone] at h3
    simp -implicitDefEqProofs (disch := (first | omega | assumption | (simp only [List.length_append, List.length_map, rangeD_len, List.length_cons, List.length_nil, List.length_range, List.length_reverse]; omega))) only [sVar_0, sVar_1, sVar_2, sVar_3, sVar_4, sVar_5, sVar_6, sVar_7, sVar_8, sVar_9, sVar_10, sVar_11, sVar_12, sVar_13, sVar_14, sVar_15, sVar_16, sVar_17, sVar_18, sVar_19, sVar_20, sVar_21, sVar_22, sVar_23, sVar_24, sVar_25, sVar_26, sVar_27, sVar_28, sVar_29, sVar_30, sVar_31, sVar_32, sVar_33, sVar_34, sC_e, sDct_e, bSortedA_l, bSortedA_t, bSortedA_s, sOp_e, sU_e, sB_b, boolD_b, sAnd_e, sOr_e, sNot_e, sAndV_e, sOrV_e, sNotV_e, sIf_e, sNeg_e, negD_i, sCall_e, sNil_e, sCons_e, sTup_e, sLst_e, sIsi_e, sNoP_e, sPart_e, intD_i, sSl_e, sCup0_e, sCup1_e, sChain_e, sSkip_e, sSeq_e, thenO_nx, thenO_rt, thenO_bk, thenO_ct, sDrop_e, sRet_e, sRetN_e, sIte_e, sSet_e, sSets_e, setAll_nil, setAll_cons, sApp_e, sExt_e, sPut_e, sAug_e, sAugI_e, sPut0_e, sPut1_e, put0_i, put1_i, sFor_e, sItems_e, sRange1_e, range1_i, sRange2_e, sComp_e, tgN_e, wipeE_nil, wipeE_cons, sYes_e, runD_e, outR_rt, outR_nx, env0_t, env0_f, oAdd_i, oAdd_s, oAdd_l, oAdd_t, oAddL_l, oSub_i, oMul_i, oMul_s, oMul_l, oMulL_l, oMul_t, oDiv_i, oMod_i, oLt_i, oLe_i, oLt_s, oLe_s, oGt_i, oGe_i, oEq_i, oNe_i, oEq_s, oNe_s, oIs_n, oIsNot_n, oIs_b, oIn_s, bLen_l, bLen_t, bLen_s, bInt_i, bStr_s, bTuple_l, bTuple_t, bList_l, bList_t, itemsOf_l, itemsOf_t, itemsOf_s, isTy, isNonB, bTupleA_l, bTupleA_t, bTupleA_s, bListA_l, bListA_t, bListA_s, bRev_l, bRev_t, bRev_s, mCount_s, sZip_e, sEnum_e, sComp2_e, sLstR_e, sTupR_e, tgTup2_e, sUnp_e, unpD_2, unpD_3, unpD_4, bAll_2, oIx_s, oIx_l, oIx_t, oSl_s, oSl_l, oSl_t, oNe_ln, oEq_ln, Option.bind_some, Option.bind_none, Option.map_some, Option.map_none, List.set_cons_zero, List.set_cons_succ, List.map_cons, List.map_nil, List.replicate_succ, List.replicate_zero, List.cons_append, List.nil_append, List.length_cons, List.length_nil, if_true, if_false, Bool.not_true, Bool.not_false, Bool.false_eq_true, reduceIte, decide_true, decide_false, Bool.true_and, Bool.false_and, Bool.and_true, Bool.and_false, Nat.reduceLeDiff, Nat.reduceAdd, Nat.zero_add, and_self, and_true, true_and, and_false, false_and, ↓h1, ↓h2, h3]⟩)]
  simp -implicitDefEqProofs (disch := (first | omega | assumption | (simp only [List.length_append, List.length_map, rangeD_len, List.length_cons, List.length_nil, List.length_range, List.length_reverse]; omega))) only [sVar_0, sVar_1, sVar_2, sVar_3, sVar_4, sVar_5, sVar_6, sVar_7, sVar_8, sVar_9, sVar_10, sVar_11, sVar_12, sVar_13, sVar_14, sVar_15, sVar_16, sVar_17, sVar_18, sVar_19, sVar_20, sVar_21, sVar_22, sVar_23, sVar_24, sVar_25, sVar_26, sVar_27, sVar_28, sVar_29, sVar_30, sVar_31, sVar_32, sVar_33, sVar_34, sC_e, sDct_e, bSortedA_l, bSortedA_t, bSortedA_s, sOp_e, sU_e, sB_b, boolD_b, sAnd_e, sOr_e, sNot_e, sAndV_e, sOrV_e, sNotV_e, sIf_e, sNeg_e, negD_i, sCall_e, sNil_e, sCons_e, sTup_e, sLst_e, sIsi_e, sNoP_e, sPart_e, intD_i, sSl_e, sCup0_e, sCup1_e, sChain_e, sSkip_e, sSeq_e, thenO_nx, thenO_rt, thenO_bk, thenO_ct, sDrop_e, sRet_e, sRetN_e, sIte_e, sSet_e, sSets_e, setAll_nil, setAll_cons, sApp_e, sExt_e, sPut_e, sAug_e, sAugI_e, sPut0_e, sPut1_e, put0_i, put1_i, sFor_e, sItems_e, sRange1_e, range1_i, sRange2_e, sComp_e, tgN_e, wipeE_nil, wipeE_cons, sYes_e, runD_e, outR_rt, outR_nx, env0_t, env0_f, oAdd_i, oAdd_s, oAdd_l, oAdd_t, oAddL_l, oSub_i, oMul_i, oMul_s, oMul_l, oMulL_l, oMul_t, oDiv_i, oMod_i, oLt_i, oLe_i, oLt_s, oLe_s, oGt_i, oGe_i, oEq_i, oNe_i, oEq_s, oNe_s, oIs_n, oIsNot_n, oIs_b, oIn_s, bLen_l, bLen_t, bLen_s, bInt_i, bStr_s, bTuple_l, bTuple_t, bList_l, bList_t, itemsOf_l, itemsOf_t, itemsOf_s, isTy, isNonB, bTupleA_l, bTupleA_t, bTupleA_s, bListA_l, bListA_t, bListA_s, bRev_l, bRev_t, bRev_s, mCount_s, sZip_e, sEnum_e, sComp2_e, sLstR_e, sTupR_e, tgTup2_e, sUnp_e, unpD_2, unpD_3, unpD_4, bAll_2, oIx_s, oIx_l, oIx_t, oSl_s, oSl_l, oSl_t, oNe_ln, oEq_ln, Option.bind_some, Option.bind_none, Option.map_some, Option.map_none, List.set_cons_zero, List.set_cons_succ, List.map_cons, List.map_nil, List.replicate_succ, List.replicate_zero, List.cons_append, List.nil_append, List.length_cons, List.length_nil, if_true, if_false, Bool.not_true, Bool.not_false, Bool.false_eq_true, reduceIte, decide_true, decide_false, Bool.true_and, Bool.false_and, Bool.and_true, Bool.and_false, Nat.reduceLeDiff, Nat.reduceAdd, Nat.zero_add, and_self, and_true, true_and, and_false, false_and]
  unfold RW
  rw [wD, List.map_map]
  rfl
theorem columns_in_t {w : List Nat} {n h : Nat} {c : Cup} (h0 : 1 ≤ h) (h1 : h ≤ 40) (n1 : n ≤ 24) : m_columns_in [wD (RW w n h)] c = some (.list ((List.range n).map fun t => ps (col w n h t)), c) := by
  have ha : atI ((RW w n h).map ps) 0 = some (ps (rowN w n 0)) := by
    rw [show (0 : Int) = ((0 : Nat) : Int) from rfl, atI_mp (x := []) (by rw [RW_len]; omega)]
    unfold RW
    rw [List.getD_eq_getElem?_getD, List.getElem?_map, List.getElem?_range (by omega)]
    rfl
  have hle : (rangeD 0 n).length ≤ 16777216 := by rw [rangeD_len]; omega
  have hle2 : ((RW w n h).map ps).length ≤ 16777216 := by rw [List.length_map, RW_len]; omega
  unfold m_columns_in b_columns_in
  simp -implicitDefEqProofs (disch := (first | omega | assumption | (simp only [List.length_append, List.length_map, rangeD_len, List.length_cons, List.length_nil, List.length_range, List.length_reverse]; omega))) only [sVar_0, sVar_1, sVar_2, sVar_3, sVar_4, sVar_5, sVar_6, sVar_7, sVar_8, sVar_9, sVar_10, sVar_11, sVar_12, sVar_13, sVar_14, sVar_15, sVar_16, sVar_17, sVar_18, sVar_19, sVar_20, sVar_21, sVar_22, sVar_23, sVar_24, sVar_25, sVar_26, sVar_27, sVar_28, sVar_29, sVar_30, sVar_31, sVar_32, sVar_33, sVar_34, sC_e, sDct_e, bSortedA_l, bSortedA_t, bSortedA_s, sOp_e, sU_e, sB_b, boolD_b, sAnd_e, sOr_e, sNot_e, sAndV_e, sOrV_e, sNotV_e, sIf_e, sNeg_e, negD_i, sCall_e, sNil_e, sCons_e, sTup_e, sLst_e, sIsi_e, sNoP_e, sPart_e, intD_i, sSl_e, sCup0_e, sCup1_e, sChain_e, sSkip_e, sSeq_e, thenO_nx, thenO_rt, thenO_bk, thenO_ct, sDrop_e, sRet_e, sRetN_e, sIte_e, sSet_e, sSets_e, setAll_nil, setAll_cons, sApp_e, sExt_e, sPut_e, sAug_e, sAugI_e, sPut0_e, sPut1_e, put0_i, put1_i, sFor_e, sItems_e, sRange1_e, range1_i, sRange2_e, sComp_e, tgN_e, wipeE_nil, wipeE_cons, sYes_e, runD_e, outR_rt, outR_nx, env0_t, env0_f, oAdd_i, oAdd_s, oAdd_l, oAdd_t, oAddL_l, oSub_i, oMul_i, oMul_s, oMul_l, oMulL_l, oMul_t, oDiv_i, oMod_i, oLt_i, oLe_i, oLt_s, oLe_s, oGt_i, oGe_i, oEq_i, oNe_i, oEq_s, oNe_s, oIs_n, oIsNot_n, oIs_b, oIn_s, bLen_l, bLen_t, bLen_s, bInt_i, bStr_s, bTuple_l, bTuple_t, bList_l, bList_t, itemsOf_l, itemsOf_t, itemsOf_s, isTy, isNonB, bTupleA_l, bTupleA_t, bTupleA_s, bListA_l, bListA_t, bListA_s, bRev_l, bRev_t, bRev_s, mCount_s, sZip_e, sEnum_e, sComp2_e, sLstR_e, sTupR_e, tgTup2_e, sUnp_e, unpD_2, unpD_3, unpD_4, bAll_2, oIx_s, oIx_l, oIx_t, oSl_s, oSl_l, oSl_t, oNe_ln, oEq_ln, Option.bind_some, Option.bind_none, Option.map_some, Option.map_none, List.set_cons_zero, List.set_cons_succ, List.map_cons, List.map_nil, List.replicate_succ, List.replicate_zero, List.cons_append, List.nil_append, List.length_cons, List.length_nil, if_true, if_false, Bool.not_true, Bool.not_false, Bool.false_eq_true, reduceIte, decide_true, decide_false, Bool.true_and, Bool.false_and, Bool.and_true, Bool.and_false, Nat.reduceLeDiff, Nat.reduceAdd, Nat.zero_add, and_self, and_true, true_and, and_false, false_and, ha, rowN_len, Int.toNat_natCast, hle]
  rw [rangeD_nat, compD_mapA (h := nD) (g := fun t => ps (col w n h t)) (fun t ht => by
    rw [List.mem_range] at ht
    refine ⟨_, rfl, ?_⟩
    simp -implicitDefEqProofs (disch := (first | omega | assumption | (simp only [List.length_append, List.length_map, rangeD_len, List.length_cons, List.length_nil, List.length_range, List.length_reverse]; omega))) only [sVar_0, sVar_1, sVar_2, sVar_3, sVar_4, sVar_5, sVar_6, sVar_7, sVar_8, sVar_9, sVar_10, sVar_11, sVar_12, sVar_13, sVar_14, sVar_15, sVar_16, sVar_17, sVar_18, sVar_19, sVar_20, sVar_21, sVar_22, sVar_23, sVar_24, sVar_25, sVar_26, sVar_27, sVar_28, sVar_29, sVar_30, sVar_31, sVar_32, sVar_33, sVar_34, sC_e, sDct_e, bSortedA_l, bSortedA_t, bSortedA_s, sOp_e, sU_e, sB_b, boolD_b, sAnd_e, sOr_e, sNot_e, sAndV_e, sOrV_e, sNotV_e, sIf_e, sNeg_e, negD_i, sCall_e, sNil_e, sCons_e, sTup_e, sLst_e, sIsi_e, sNoP_e, sPart_e, intD_i, sSl_e, sCup0_e, sCup1_e, sChain_e, sSkip_e, sSeq_e, thenO_nx, thenO_rt, thenO_bk, thenO_ct, sDrop_e, sRet_e, sRetN_e, sIte_e, sSet_e, sSets_e, setAll_nil, setAll_cons, sApp_e, sExt_e, sPut_e, sAug_e, sAugI_e, sPut0_e, sPut1_e, put0_i, put1_i, sFor_e, sItems_e, sRange1_e, range1_i, sRange2_e, sComp_e, tgN_e, wipeE_nil, wipeE_cons, sYes_e, runD_e, outR_rt, outR_nx, env0_t, env0_f, oAdd_i, oAdd_s, oAdd_l, oAdd_t, oAddL_l, oSub_i, oMul_i, oMul_s, oMul_l, oMulL_l, oMul_t, oDiv_i, oMod_i, oLt_i, oLe_i, oLt_s, oLe_s, oGt_i, oGe_i, oEq_i, oNe_i, oEq_s, oNe_s, oIs_n, oIsNot_n, oIs_b, oIn_s, bLen_l, bLen_t, bLen_s, bInt_i, bStr_s, bTuple_l, bTuple_t, bList_l, bList_t, itemsOf_l, itemsOf_t, itemsOf_s, isTy, isNonB, bTupleA_l, bTupleA_t, bTupleA_s, bListA_l, bListA_t, bListA_s, bRev_l, bRev_t, bRev_s, mCount_s, sZip_e, sEnum_e, sComp2_e, sLstR_e, sTupR_e, tgTup2_e, sUnp_e, unpD_2, unpD_3, unpD_4, bAll_2, oIx_s, oIx_l, oIx_t, oSl_s, oSl_l, oSl_t, oNe_ln, oEq_ln, Option.bind_some, Option.bind_none, Option.map_some, Option.map_none, List.set_cons_zero, List.set_cons_succ, List.map_cons, List.map_nil, List.replicate_succ, List.replicate_zero, List.cons_append, List.nil_append, List.length_cons, List.length_nil, if_true, if_false, Bool.not_true, Bool.not_false, Bool.false_eq_true, reduceIte, decide_true, decide_false, Bool.true_and, Bool.false_and, Bool.and_true, Bool.and_false, Nat.reduceLeDiff, Nat.reduceAdd, Nat.zero_add, and_self, and_true, true_and, and_false, false_and, hle2]
    rw [compD_mapA (h := ps) (g := fun l => ps [l.getD t 0]) (fun l hl => ⟨_, rfl, by
      have := atI_mpS (l := l) (j := t) (x := 0) (by rw [RW_row l hl]; exact ht)
      simp -implicitDefEqProofs (disch := (first | omega | assumption | (simp only [List.length_append, List.length_map, rangeD_len, List.length_cons, List.length_nil, List.length_range, List.length_reverse]; omega))) only [sVar_0, sVar_1, sVar_2, sVar_3, sVar_4, sVar_5, sVar_6, sVar_7, sVar_8, sVar_9, sVar_10, sVar_11, sVar_12, sVar_13, sVar_14, sVar_15, sVar_16, sVar_17, sVar_18, sVar_19, sVar_20, sVar_21, sVar_22, sVar_23, sVar_24, sVar_25, sVar_26, sVar_27, sVar_28, sVar_29, sVar_30, sVar_31, sVar_32, sVar_33, sVar_34, sC_e, sDct_e, bSortedA_l, bSortedA_t, bSortedA_s, sOp_e, sU_e, sB_b, boolD_b, sAnd_e, sOr_e, sNot_e, sAndV_e, sOrV_e, sNotV_e, sIf_e, sNeg_e, negD_i, sCall_e, sNil_e, sCons_e, sTup_e, sLst_e, sIsi_e, sNoP_e, sPart_e, intD_i, sSl_e, sCup0_e, sCup1_e, sChain_e, sSkip_e, sSeq_e, thenO_nx, thenO_rt, thenO_bk, thenO_ct, sDrop_e, sRet_e, sRetN_e, sIte_e, sSet_e, sSets_e, setAll_nil, setAll_cons, sApp_e, sExt_e, sPut_e, sAug_e, sAugI_e, sPut0_e, sPut1_e, put0_i, put1_i, sFor_e, sItems_e, sRange1_e, range1_i, sRange2_e, sComp_e, tgN_e, wipeE_nil, wipeE_cons, sYes_e, runD_e, outR_rt, outR_nx, env0_t, env0_f, oAdd_i, oAdd_s, oAdd_l, oAdd_t, oAddL_l, oSub_i, oMul_i, oMul_s, oMul_l, oMulL_l, oMul_t, oDiv_i, oMod_i, oLt_i, oLe_i, oLt_s, oLe_s, oGt_i, oGe_i, oEq_i, oNe_i, oEq_s, oNe_s, oIs_n, oIsNot_n, oIs_b, oIn_s, bLen_l, bLen_t, bLen_s, bInt_i, bStr_s, bTuple_l, bTuple_t, bList_l, bList_t, itemsOf_l, itemsOf_t, itemsOf_s, isTy, isNonB, bTupleA_l, bTupleA_t, bTupleA_s, bListA_l, bListA_t, bListA_s, bRev_l, bRev_t, bRev_s, mCount_s, sZip_e, sEnum_e, sComp2_e, sLstR_e, sTupR_e, tgTup2_e, sUnp_e, unpD_2, unpD_3, unpD_4, bAll_2, oIx_s, oIx_l, oIx_t, oSl_s, oSl_l, oSl_t, oNe_ln, oEq_ln, Option.bind_some, Option.bind_none, Option.map_some, Option.map_none, List.set_cons_zero, List.set_cons_succ, List.map_cons, List.map_nil, List.replicate_succ, List.replicate_zero, List.cons_append, List.nil_append, List.length_cons, List.length_nil, if_true, if_false, Bool.not_true, Bool.not_false, Bool.false_eq_true, reduceIte, decide_true, decide_false, Bool.true_and, Bool.false_and, Bool.and_true, Bool.and_false, Nat.reduceLeDiff, Nat.reduceAdd, Nat.zero_add, and_self, and_true, true_and, and_false, false_and, this]⟩)]
    have hj := join_signs (l := col w n h t) (by unfold col; rw [List.length_map, List.length_range]; omega)
    rw [← RW_col ht, List.map_map] at hj
    have hj' : mJoin (ps []) (.list ((RW w n h).map fun l => ps [l.getD t 0])) = some (ps ((RW w n h).map fun l => l.getD t 0)) := hj
    rw [RW_col ht] at hj'
    simp -implicitDefEqProofs (disch := (first | omega | assumption | (simp only [List.length_append, List.length_map, rangeD_len, List.length_cons, List.length_nil, List.length_range, List.length_reverse]; omega))) only [sVar_0, sVar_1, sVar_2, sVar_3, sVar_4, sVar_5, sVar_6, sVar_7, sVar_8, sVar_9, sVar_10, sVar_11, sVar_12, sVar_13, sVar_14, sVar_15, sVar_16, sVar_17, sVar_18, sVar_19, sVar_20, sVar_21, sVar_22, sVar_23, sVar_24, sVar_25, sVar_26, sVar_27, sVar_28, sVar_29, sVar_30, sVar_31, sVar_32, sVar_33, sVar_34, sC_e, sDct_e, bSortedA_l, bSortedA_t, bSortedA_s, sOp_e, sU_e, sB_b, boolD_b, sAnd_e, sOr_e, sNot_e, sAndV_e, sOrV_e, sNotV_e, sIf_e, sNeg_e, negD_i, sCall_e, sNil_e, sCons_e, sTup_e, sLst_e, sIsi_e, sNoP_e, sPart_e, intD_i, sSl_e, sCup0_e, sCup1_e, sChain_e, sSkip_e, sSeq_e, thenO_nx, thenO_rt, thenO_bk, thenO_ct, sDrop_e, sRet_e, sRetN_e, sIte_e, sSet_e, sSets_e, setAll_nil, setAll_cons, sApp_e, sExt_e, sPut_e, sAug_e, sAugI_e, sPut0_e, sPut1_e, put0_i, put1_i, sFor_e, sItems_e, sRange1_e, range1_i, sRange2_e, sComp_e, tgN_e, wipeE_nil, wipeE_cons, sYes_e, runD_e, outR_rt, outR_nx, env0_t, env0_f, oAdd_i, oAdd_s, oAdd_l, oAdd_t, oAddL_l, oSub_i, oMul_i, oMul_s, oMul_l, oMulL_l, oMul_t, oDiv_i, oMod_i, oLt_i, oLe_i, oLt_s, oLe_s, oGt_i, oGe_i, oEq_i, oNe_i, oEq_s, oNe_s, oIs_n, oIsNot_n, oIs_b, oIn_s, bLen_l, bLen_t, bLen_s, bInt_i, bStr_s, bTuple_l, bTuple_t, bList_l, bList_t, itemsOf_l, itemsOf_t, itemsOf_s, isTy, isNonB, bTupleA_l, bTupleA_t, bTupleA_s, bListA_l, bListA_t, bListA_s, bRev_l, bRev_t, bRev_s, mCount_s, sZip_e, sEnum_e, sComp2_e, sLstR_e, sTupR_e, tgTup2_e, sUnp_e, unpD_2, unpD_3, unpD_4, bAll_2, oIx_s, oIx_l, oIx_t, oSl_s, oSl_l, oSl_t, oNe_ln, oEq_ln, Option.bind_some, Option.bind_none, Option.map_some, Option.map_none, List.set_cons_zero, List.set_cons_succ, List.map_cons, List.map_nil, List.replicate_succ, List.replicate_zero, List.cons_append, List.nil_append, List.length_cons, List.length_nil, if_true, if_false, Bool.not_true, Bool.not_false, Bool.false_eq_true, reduceIte, decide_true, decide_false, Bool.true_and, Bool.false_and, Bool.and_true, Bool.and_false, Nat.reduceLeDiff, Nat.reduceAdd, Nat.zero_add, and_self, and_true, true_and, and_false, false_and, hj'])]
  simp -implicitDefEqProofs (disch := (first | omega | assumption | (simp only [List.length_append, List.length_map, rangeD_len, List.length_cons, List.length_nil, List.length_range, List.length_reverse]; omega))) only [sVar_0, sVar_1, sVar_2, sVar_3, sVar_4, sVar_5, sVar_6, sVar_7, sVar_8, sVar_9, sVar_10, sVar_11, sVar_12, sVar_13, sVar_14, sVar_15, sVar_16, sVar_17, sVar_18, sVar_19, sVar_20, sVar_21, sVar_22, sVar_23, sVar_24, sVar_25, sVar_26, sVar_27, sVar_28, sVar_29, sVar_30, sVar_31, sVar_32, sVar_33, sVar_34, sC_e, sDct_e, bSortedA_l, bSortedA_t, bSortedA_s, sOp_e, sU_e, sB_b, boolD_b, sAnd_e, sOr_e, sNot_e, sAndV_e, sOrV_e, sNotV_e, sIf_e, sNeg_e, negD_i, sCall_e, sNil_e, sCons_e, sTup_e, sLst_e, sIsi_e, sNoP_e, sPart_e, intD_i, sSl_e, sCup0_e, sCup1_e, sChain_e, sSkip_e, sSeq_e, thenO_nx, thenO_rt, thenO_bk, thenO_ct, sDrop_e, sRet_e, sRetN_e, sIte_e, sSet_e, sSets_e, setAll_nil, setAll_cons, sApp_e, sExt_e, sPut_e, sAug_e, sAugI_e, sPut0_e, sPut1_e, put0_i, put1_i, sFor_e, sItems_e, sRange1_e, range1_i, sRange2_e, sComp_e, tgN_e, wipeE_nil, wipeE_cons, sYes_e, runD_e, outR_rt, outR_nx, env0_t, env0_f, oAdd_i, oAdd_s, oAdd_l, oAdd_t, oAddL_l, oSub_i, oMul_i, oMul_s, oMul_l, oMulL_l, oMul_t, oDiv_i, oMod_i, oLt_i, oLe_i, oLt_s, oLe_s, oGt_i, oGe_i, oEq_i, oNe_i, oEq_s, oNe_s, oIs_n, oIsNot_n, oIs_b, oIn_s, bLen_l, bLen_t, bLen_s, bInt_i, bStr_s, bTuple_l, bTuple_t, bList_l, bList_t, itemsOf_l, itemsOf_t, itemsOf_s, isTy, isNonB, bTupleA_l, bTupleA_t, bTupleA_s, bListA_l, bListA_t, bListA_s, bRev_l, bRev_t, bRev_s, mCount_s, sZip_e, sEnum_e, sComp2_e, sLstR_e, sTupR_e, tgTup2_e, sUnp_e, unpD_2, unpD_3, unpD_4, bAll_2, oIx_s, oIx_l, oIx_t, oSl_s, oSl_l, oSl_t, oNe_ln, oEq_ln, Option.bind_some, Option.bind_none, Option.map_some, Option.map_none, List.set_cons_zero, List.set_cons_succ, List.map_cons, List.map_nil, List.replicate_succ, List.replicate_zero, List.cons_append, List.nil_append, List.length_cons, List.length_nil, if_true, if_false, Bool.not_true, Bool.not_false, Bool.false_eq_true, reduceIte, decide_true, decide_false, Bool.true_and, Bool.false_and, Bool.and_true, Bool.and_false, Nat.reduceLeDiff, Nat.reduceAdd, Nat.zero_add, and_self, and_true, true_and, and_false, false_and]
theorem holds_in_t {w : List Nat} {n h : Nat} {c : Cup} (h0 : 1 ≤ h) (h1 : h ≤ 40) (n1 : n ≤ 24) : m_holds_in [wD (RW w n h)] c = some (.bool (ho w n h), c) := by
  have hle : ((List.range n).map fun t => ps (col w n h t)).length ≤ 16777216 := by rw [List.length_map, List.length_range]; omega
  unfold m_holds_in b_holds_in
  simp -implicitDefEqProofs (disch := (first | omega | assumption | (simp only [List.length_append, List.length_map, rangeD_len, List.length_cons, List.length_nil, List.length_range, List.length_reverse]; omega))) only [sVar_0, sVar_1, sVar_2, sVar_3, sVar_4, sVar_5, sVar_6, sVar_7, sVar_8, sVar_9, sVar_10, sVar_11, sVar_12, sVar_13, sVar_14, sVar_15, sVar_16, sVar_17, sVar_18, sVar_19, sVar_20, sVar_21, sVar_22, sVar_23, sVar_24, sVar_25, sVar_26, sVar_27, sVar_28, sVar_29, sVar_30, sVar_31, sVar_32, sVar_33, sVar_34, sC_e, sDct_e, bSortedA_l, bSortedA_t, bSortedA_s, sOp_e, sU_e, sB_b, boolD_b, sAnd_e, sOr_e, sNot_e, sAndV_e, sOrV_e, sNotV_e, sIf_e, sNeg_e, negD_i, sCall_e, sNil_e, sCons_e, sTup_e, sLst_e, sIsi_e, sNoP_e, sPart_e, intD_i, sSl_e, sCup0_e, sCup1_e, sChain_e, sSkip_e, sSeq_e, thenO_nx, thenO_rt, thenO_bk, thenO_ct, sDrop_e, sRet_e, sRetN_e, sIte_e, sSet_e, sSets_e, setAll_nil, setAll_cons, sApp_e, sExt_e, sPut_e, sAug_e, sAugI_e, sPut0_e, sPut1_e, put0_i, put1_i, sFor_e, sItems_e, sRange1_e, range1_i, sRange2_e, sComp_e, tgN_e, wipeE_nil, wipeE_cons, sYes_e, runD_e, outR_rt, outR_nx, env0_t, env0_f, oAdd_i, oAdd_s, oAdd_l, oAdd_t, oAddL_l, oSub_i, oMul_i, oMul_s, oMul_l, oMulL_l, oMul_t, oDiv_i, oMod_i, oLt_i, oLe_i, oLt_s, oLe_s, oGt_i, oGe_i, oEq_i, oNe_i, oEq_s, oNe_s, oIs_n, oIsNot_n, oIs_b, oIn_s, bLen_l, bLen_t, bLen_s, bInt_i, bStr_s, bTuple_l, bTuple_t, bList_l, bList_t, itemsOf_l, itemsOf_t, itemsOf_s, isTy, isNonB, bTupleA_l, bTupleA_t, bTupleA_s, bListA_l, bListA_t, bListA_s, bRev_l, bRev_t, bRev_s, mCount_s, sZip_e, sEnum_e, sComp2_e, sLstR_e, sTupR_e, tgTup2_e, sUnp_e, unpD_2, unpD_3, unpD_4, bAll_2, oIx_s, oIx_l, oIx_t, oSl_s, oSl_l, oSl_t, oNe_ln, oEq_ln, Option.bind_some, Option.bind_none, Option.map_some, Option.map_none, List.set_cons_zero, List.set_cons_succ, List.map_cons, List.map_nil, List.replicate_succ, List.replicate_zero, List.cons_append, List.nil_append, List.length_cons, List.length_nil, if_true, if_false, Bool.not_true, Bool.not_false, Bool.false_eq_true, reduceIte, decide_true, decide_false, Bool.true_and, Bool.false_and, Bool.and_true, Bool.and_false, Nat.reduceLeDiff, Nat.reduceAdd, Nat.zero_add, and_self, and_true, true_and, and_false, false_and, columns_in_t (w := w) (n := n) h0 h1 n1, hle]
  rw [compD_mapA (h := fun t => ps (col w n h t)) (g := fun t => .bool (mx w n h t)) (fun t _ => ⟨_, rfl, by simp -implicitDefEqProofs (disch := (first | omega | assumption | (simp only [List.length_append, List.length_map, rangeD_len, List.length_cons, List.length_nil, List.length_range, List.length_reverse]; omega))) only [sVar_0, sVar_1, sVar_2, sVar_3, sVar_4, sVar_5, sVar_6, sVar_7, sVar_8, sVar_9, sVar_10, sVar_11, sVar_12, sVar_13, sVar_14, sVar_15, sVar_16, sVar_17, sVar_18, sVar_19, sVar_20, sVar_21, sVar_22, sVar_23, sVar_24, sVar_25, sVar_26, sVar_27, sVar_28, sVar_29, sVar_30, sVar_31, sVar_32, sVar_33, sVar_34, sC_e, sDct_e, bSortedA_l, bSortedA_t, bSortedA_s, sOp_e, sU_e, sB_b, boolD_b, sAnd_e, sOr_e, sNot_e, sAndV_e, sOrV_e, sNotV_e, sIf_e, sNeg_e, negD_i, sCall_e, sNil_e, sCons_e, sTup_e, sLst_e, sIsi_e, sNoP_e, sPart_e, intD_i, sSl_e, sCup0_e, sCup1_e, sChain_e, sSkip_e, sSeq_e, thenO_nx, thenO_rt, thenO_bk, thenO_ct, sDrop_e, sRet_e, sRetN_e, sIte_e, sSet_e, sSets_e, setAll_nil, setAll_cons, sApp_e, sExt_e, sPut_e, sAug_e, sAugI_e, sPut0_e, sPut1_e, put0_i, put1_i, sFor_e, sItems_e, sRange1_e, range1_i, sRange2_e, sComp_e, tgN_e, wipeE_nil, wipeE_cons, sYes_e, runD_e, outR_rt, outR_nx, env0_t, env0_f, oAdd_i, oAdd_s, oAdd_l, oAdd_t, oAddL_l, oSub_i, oMul_i, oMul_s, oMul_l, oMulL_l, oMul_t, oDiv_i, oMod_i, oLt_i, oLe_i, oLt_s, oLe_s, oGt_i, oGe_i, oEq_i, oNe_i, oEq_s, oNe_s, oIs_n, oIsNot_n, oIs_b, oIn_s, bLen_l, bLen_t, bLen_s, bInt_i, bStr_s, bTuple_l, bTuple_t, bList_l, bList_t, itemsOf_l, itemsOf_t, itemsOf_s, isTy, isNonB, bTupleA_l, bTupleA_t, bTupleA_s, bListA_l, bListA_t, bListA_s, bRev_l, bRev_t, bRev_s, mCount_s, sZip_e, sEnum_e, sComp2_e, sLstR_e, sTupR_e, tgTup2_e, sUnp_e, unpD_2, unpD_3, unpD_4, bAll_2, oIx_s, oIx_l, oIx_t, oSl_s, oSl_l, oSl_t, oNe_ln, oEq_ln, Option.bind_some, Option.bind_none, Option.map_some, Option.map_none, List.set_cons_zero, List.set_cons_succ, List.map_cons, List.map_nil, List.replicate_succ, List.replicate_zero, List.cons_append, List.nil_append, List.length_cons, List.length_nil, if_true, if_false, Bool.not_true, Bool.not_false, Bool.false_eq_true, reduceIte, decide_true, decide_false, Bool.true_and, Bool.false_and, Bool.and_true, Bool.and_false, Nat.reduceLeDiff, Nat.reduceAdd, Nat.zero_add, and_self, and_true, true_and, and_false, false_and, is_mixed_t, mx]⟩)]
  simp -implicitDefEqProofs (disch := (first | omega | assumption | (simp only [List.length_append, List.length_map, rangeD_len, List.length_cons, List.length_nil, List.length_range, List.length_reverse]; omega))) only [sVar_0, sVar_1, sVar_2, sVar_3, sVar_4, sVar_5, sVar_6, sVar_7, sVar_8, sVar_9, sVar_10, sVar_11, sVar_12, sVar_13, sVar_14, sVar_15, sVar_16, sVar_17, sVar_18, sVar_19, sVar_20, sVar_21, sVar_22, sVar_23, sVar_24, sVar_25, sVar_26, sVar_27, sVar_28, sVar_29, sVar_30, sVar_31, sVar_32, sVar_33, sVar_34, sC_e, sDct_e, bSortedA_l, bSortedA_t, bSortedA_s, sOp_e, sU_e, sB_b, boolD_b, sAnd_e, sOr_e, sNot_e, sAndV_e, sOrV_e, sNotV_e, sIf_e, sNeg_e, negD_i, sCall_e, sNil_e, sCons_e, sTup_e, sLst_e, sIsi_e, sNoP_e, sPart_e, intD_i, sSl_e, sCup0_e, sCup1_e, sChain_e, sSkip_e, sSeq_e, thenO_nx, thenO_rt, thenO_bk, thenO_ct, sDrop_e, sRet_e, sRetN_e, sIte_e, sSet_e, sSets_e, setAll_nil, setAll_cons, sApp_e, sExt_e, sPut_e, sAug_e, sAugI_e, sPut0_e, sPut1_e, put0_i, put1_i, sFor_e, sItems_e, sRange1_e, range1_i, sRange2_e, sComp_e, tgN_e, wipeE_nil, wipeE_cons, sYes_e, runD_e, outR_rt, outR_nx, env0_t, env0_f, oAdd_i, oAdd_s, oAdd_l, oAdd_t, oAddL_l, oSub_i, oMul_i, oMul_s, oMul_l, oMulL_l, oMul_t, oDiv_i, oMod_i, oLt_i, oLe_i, oLt_s, oLe_s, oGt_i, oGe_i, oEq_i, oNe_i, oEq_s, oNe_s, oIs_n, oIsNot_n, oIs_b, oIn_s, bLen_l, bLen_t, bLen_s, bInt_i, bStr_s, bTuple_l, bTuple_t, bList_l, bList_t, itemsOf_l, itemsOf_t, itemsOf_s, isTy, isNonB, bTupleA_l, bTupleA_t, bTupleA_s, bListA_l, bListA_t, bListA_s, bRev_l, bRev_t, bRev_s, mCount_s, sZip_e, sEnum_e, sComp2_e, sLstR_e, sTupR_e, tgTup2_e, sUnp_e, unpD_2, unpD_3, unpD_4, bAll_2, oIx_s, oIx_l, oIx_t, oSl_s, oSl_l, oSl_t, oNe_ln, oEq_ln, Option.bind_some, Option.bind_none, Option.map_some, Option.map_none, List.set_cons_zero, List.set_cons_succ, List.map_cons, List.map_nil, List.replicate_succ, List.replicate_zero, List.cons_append, List.nil_append, List.length_cons, List.length_nil, if_true, if_false, Bool.not_true, Bool.not_false, Bool.false_eq_true, reduceIte, decide_true, decide_false, Bool.true_and, Bool.false_and, Bool.and_true, Bool.and_false, Nat.reduceLeDiff, Nat.reduceAdd, Nat.zero_add, and_self, and_true, true_and, and_false, false_and, bAll_map, ho_all]
def hold (n h k : Nat) : List (List Nat) := (lw k).filter fun w => ho w n h
theorem lw_word {k : Nat} (k0 : 1 ≤ k) (k1 : k ≤ 8) {w : List Nat} (hw : w ∈ lw k) : Word w := by
  have := lw_row k w hw
  exact ⟨by omega, by omega, lw_sg k w hw⟩
theorem lw_le {k : Nat} (k1 : k ≤ 8) : (lw k).length ≤ 256 := by
  rw [lw_len]
  exact Nat.le_trans (Nat.pow_le_pow_right (by omega) k1) (by decide)
theorem holding_in_t {n h k : Nat} {c : Cup} (h0 : 1 ≤ h) (h1 : h ≤ 40) (n1 : n ≤ 24) (k0 : 1 ≤ k) (k1 : k ≤ 8) : m_holding_in [nD n, nD h, nD k] c = some (.list ((hold n h k).map ps), c) := by
  have hle : ((lw k).map ps).length ≤ 16777216 := by have := lw_le k1; rw [List.length_map]; omega
  unfold m_holding_in b_holding_in
  simp -implicitDefEqProofs (disch := (first | omega | assumption | (simp only [List.length_append, List.length_map, rangeD_len, List.length_cons, List.length_nil, List.length_range, List.length_reverse]; omega))) only [sVar_0, sVar_1, sVar_2, sVar_3, sVar_4, sVar_5, sVar_6, sVar_7, sVar_8, sVar_9, sVar_10, sVar_11, sVar_12, sVar_13, sVar_14, sVar_15, sVar_16, sVar_17, sVar_18, sVar_19, sVar_20, sVar_21, sVar_22, sVar_23, sVar_24, sVar_25, sVar_26, sVar_27, sVar_28, sVar_29, sVar_30, sVar_31, sVar_32, sVar_33, sVar_34, sC_e, sDct_e, bSortedA_l, bSortedA_t, bSortedA_s, sOp_e, sU_e, sB_b, boolD_b, sAnd_e, sOr_e, sNot_e, sAndV_e, sOrV_e, sNotV_e, sIf_e, sNeg_e, negD_i, sCall_e, sNil_e, sCons_e, sTup_e, sLst_e, sIsi_e, sNoP_e, sPart_e, intD_i, sSl_e, sCup0_e, sCup1_e, sChain_e, sSkip_e, sSeq_e, thenO_nx, thenO_rt, thenO_bk, thenO_ct, sDrop_e, sRet_e, sRetN_e, sIte_e, sSet_e, sSets_e, setAll_nil, setAll_cons, sApp_e, sExt_e, sPut_e, sAug_e, sAugI_e, sPut0_e, sPut1_e, put0_i, put1_i, sFor_e, sItems_e, sRange1_e, range1_i, sRange2_e, sComp_e, tgN_e, wipeE_nil, wipeE_cons, sYes_e, runD_e, outR_rt, outR_nx, env0_t, env0_f, oAdd_i, oAdd_s, oAdd_l, oAdd_t, oAddL_l, oSub_i, oMul_i, oMul_s, oMul_l, oMulL_l, oMul_t, oDiv_i, oMod_i, oLt_i, oLe_i, oLt_s, oLe_s, oGt_i, oGe_i, oEq_i, oNe_i, oEq_s, oNe_s, oIs_n, oIsNot_n, oIs_b, oIn_s, bLen_l, bLen_t, bLen_s, bInt_i, bStr_s, bTuple_l, bTuple_t, bList_l, bList_t, itemsOf_l, itemsOf_t, itemsOf_s, isTy, isNonB, bTupleA_l, bTupleA_t, bTupleA_s, bListA_l, bListA_t, bListA_s, bRev_l, bRev_t, bRev_s, mCount_s, sZip_e, sEnum_e, sComp2_e, sLstR_e, sTupR_e, tgTup2_e, sUnp_e, unpD_2, unpD_3, unpD_4, bAll_2, oIx_s, oIx_l, oIx_t, oSl_s, oSl_l, oSl_t, oNe_ln, oEq_ln, Option.bind_some, Option.bind_none, Option.map_some, Option.map_none, List.set_cons_zero, List.set_cons_succ, List.map_cons, List.map_nil, List.replicate_succ, List.replicate_zero, List.cons_append, List.nil_append, List.length_cons, List.length_nil, if_true, if_false, Bool.not_true, Bool.not_false, Bool.false_eq_true, reduceIte, decide_true, decide_false, Bool.true_and, Bool.false_and, Bool.and_true, Bool.and_false, Nat.reduceLeDiff, Nat.reduceAdd, Nat.zero_add, and_self, and_true, true_and, and_false, false_and, words_in_t k1, hle]
  rw [compD_filterA (h := ps) (g := ps) (p := fun w => ho w n h) (fun w hw => ⟨_, rfl, by simp -implicitDefEqProofs (disch := (first | omega | assumption | (simp only [List.length_append, List.length_map, rangeD_len, List.length_cons, List.length_nil, List.length_range, List.length_reverse]; omega))) only [sVar_0, sVar_1, sVar_2, sVar_3, sVar_4, sVar_5, sVar_6, sVar_7, sVar_8, sVar_9, sVar_10, sVar_11, sVar_12, sVar_13, sVar_14, sVar_15, sVar_16, sVar_17, sVar_18, sVar_19, sVar_20, sVar_21, sVar_22, sVar_23, sVar_24, sVar_25, sVar_26, sVar_27, sVar_28, sVar_29, sVar_30, sVar_31, sVar_32, sVar_33, sVar_34, sC_e, sDct_e, bSortedA_l, bSortedA_t, bSortedA_s, sOp_e, sU_e, sB_b, boolD_b, sAnd_e, sOr_e, sNot_e, sAndV_e, sOrV_e, sNotV_e, sIf_e, sNeg_e, negD_i, sCall_e, sNil_e, sCons_e, sTup_e, sLst_e, sIsi_e, sNoP_e, sPart_e, intD_i, sSl_e, sCup0_e, sCup1_e, sChain_e, sSkip_e, sSeq_e, thenO_nx, thenO_rt, thenO_bk, thenO_ct, sDrop_e, sRet_e, sRetN_e, sIte_e, sSet_e, sSets_e, setAll_nil, setAll_cons, sApp_e, sExt_e, sPut_e, sAug_e, sAugI_e, sPut0_e, sPut1_e, put0_i, put1_i, sFor_e, sItems_e, sRange1_e, range1_i, sRange2_e, sComp_e, tgN_e, wipeE_nil, wipeE_cons, sYes_e, runD_e, outR_rt, outR_nx, env0_t, env0_f, oAdd_i, oAdd_s, oAdd_l, oAdd_t, oAddL_l, oSub_i, oMul_i, oMul_s, oMul_l, oMulL_l, oMul_t, oDiv_i, oMod_i, oLt_i, oLe_i, oLt_s, oLe_s, oGt_i, oGe_i, oEq_i, oNe_i, oEq_s, oNe_s, oIs_n, oIsNot_n, oIs_b, oIn_s, bLen_l, bLen_t, bLen_s, bInt_i, bStr_s, bTuple_l, bTuple_t, bList_l, bList_t, itemsOf_l, itemsOf_t, itemsOf_s, isTy, isNonB, bTupleA_l, bTupleA_t, bTupleA_s, bListA_l, bListA_t, bListA_s, bRev_l, bRev_t, bRev_s, mCount_s, sZip_e, sEnum_e, sComp2_e, sLstR_e, sTupR_e, tgTup2_e, sUnp_e, unpD_2, unpD_3, unpD_4, bAll_2, oIx_s, oIx_l, oIx_t, oSl_s, oSl_l, oSl_t, oNe_ln, oEq_ln, Option.bind_some, Option.bind_none, Option.map_some, Option.map_none, List.set_cons_zero, List.set_cons_succ, List.map_cons, List.map_nil, List.replicate_succ, List.replicate_zero, List.cons_append, List.nil_append, List.length_cons, List.length_nil, if_true, if_false, Bool.not_true, Bool.not_false, Bool.false_eq_true, reduceIte, decide_true, decide_false, Bool.true_and, Bool.false_and, Bool.and_true, Bool.and_false, Nat.reduceLeDiff, Nat.reduceAdd, Nat.zero_add, and_self, and_true, true_and, and_false, false_and, rounds_in_t (w := w) (n := n) (h := h) (lw_word k0 k1 hw).lo n1 h1, holds_in_t (w := w) (n := n) h0 h1 n1], fun _ => by simp -implicitDefEqProofs (disch := (first | omega | assumption | (simp only [List.length_append, List.length_map, rangeD_len, List.length_cons, List.length_nil, List.length_range, List.length_reverse]; omega))) only [sVar_0, sVar_1, sVar_2, sVar_3, sVar_4, sVar_5, sVar_6, sVar_7, sVar_8, sVar_9, sVar_10, sVar_11, sVar_12, sVar_13, sVar_14, sVar_15, sVar_16, sVar_17, sVar_18, sVar_19, sVar_20, sVar_21, sVar_22, sVar_23, sVar_24, sVar_25, sVar_26, sVar_27, sVar_28, sVar_29, sVar_30, sVar_31, sVar_32, sVar_33, sVar_34, sC_e, sDct_e, bSortedA_l, bSortedA_t, bSortedA_s, sOp_e, sU_e, sB_b, boolD_b, sAnd_e, sOr_e, sNot_e, sAndV_e, sOrV_e, sNotV_e, sIf_e, sNeg_e, negD_i, sCall_e, sNil_e, sCons_e, sTup_e, sLst_e, sIsi_e, sNoP_e, sPart_e, intD_i, sSl_e, sCup0_e, sCup1_e, sChain_e, sSkip_e, sSeq_e, thenO_nx, thenO_rt, thenO_bk, thenO_ct, sDrop_e, sRet_e, sRetN_e, sIte_e, sSet_e, sSets_e, setAll_nil, setAll_cons, sApp_e, sExt_e, sPut_e, sAug_e, sAugI_e, sPut0_e, sPut1_e, put0_i, put1_i, sFor_e, sItems_e, sRange1_e, range1_i, sRange2_e, sComp_e, tgN_e, wipeE_nil, wipeE_cons, sYes_e, runD_e, outR_rt, outR_nx, env0_t, env0_f, oAdd_i, oAdd_s, oAdd_l, oAdd_t, oAddL_l, oSub_i, oMul_i, oMul_s, oMul_l, oMulL_l, oMul_t, oDiv_i, oMod_i, oLt_i, oLe_i, oLt_s, oLe_s, oGt_i, oGe_i, oEq_i, oNe_i, oEq_s, oNe_s, oIs_n, oIsNot_n, oIs_b, oIn_s, bLen_l, bLen_t, bLen_s, bInt_i, bStr_s, bTuple_l, bTuple_t, bList_l, bList_t, itemsOf_l, itemsOf_t, itemsOf_s, isTy, isNonB, bTupleA_l, bTupleA_t, bTupleA_s, bListA_l, bListA_t, bListA_s, bRev_l, bRev_t, bRev_s, mCount_s, sZip_e, sEnum_e, sComp2_e, sLstR_e, sTupR_e, tgTup2_e, sUnp_e, unpD_2, unpD_3, unpD_4, bAll_2, oIx_s, oIx_l, oIx_t, oSl_s, oSl_l, oSl_t, oNe_ln, oEq_ln, Option.bind_some, Option.bind_none, Option.map_some, Option.map_none, List.set_cons_zero, List.set_cons_succ, List.map_cons, List.map_nil, List.replicate_succ, List.replicate_zero, List.cons_append, List.nil_append, List.length_cons, List.length_nil, if_true, if_false, Bool.not_true, Bool.not_false, Bool.false_eq_true, reduceIte, decide_true, decide_false, Bool.true_and, Bool.false_and, Bool.and_true, Bool.and_false, Nat.reduceLeDiff, Nat.reduceAdd, Nat.zero_add, and_self, and_true, true_and, and_false, false_and]⟩)]
  simp -implicitDefEqProofs (disch := (first | omega | assumption | (simp only [List.length_append, List.length_map, rangeD_len, List.length_cons, List.length_nil, List.length_range, List.length_reverse]; omega))) only [sVar_0, sVar_1, sVar_2, sVar_3, sVar_4, sVar_5, sVar_6, sVar_7, sVar_8, sVar_9, sVar_10, sVar_11, sVar_12, sVar_13, sVar_14, sVar_15, sVar_16, sVar_17, sVar_18, sVar_19, sVar_20, sVar_21, sVar_22, sVar_23, sVar_24, sVar_25, sVar_26, sVar_27, sVar_28, sVar_29, sVar_30, sVar_31, sVar_32, sVar_33, sVar_34, sC_e, sDct_e, bSortedA_l, bSortedA_t, bSortedA_s, sOp_e, sU_e, sB_b, boolD_b, sAnd_e, sOr_e, sNot_e, sAndV_e, sOrV_e, sNotV_e, sIf_e, sNeg_e, negD_i, sCall_e, sNil_e, sCons_e, sTup_e, sLst_e, sIsi_e, sNoP_e, sPart_e, intD_i, sSl_e, sCup0_e, sCup1_e, sChain_e, sSkip_e, sSeq_e, thenO_nx, thenO_rt, thenO_bk, thenO_ct, sDrop_e, sRet_e, sRetN_e, sIte_e, sSet_e, sSets_e, setAll_nil, setAll_cons, sApp_e, sExt_e, sPut_e, sAug_e, sAugI_e, sPut0_e, sPut1_e, put0_i, put1_i, sFor_e, sItems_e, sRange1_e, range1_i, sRange2_e, sComp_e, tgN_e, wipeE_nil, wipeE_cons, sYes_e, runD_e, outR_rt, outR_nx, env0_t, env0_f, oAdd_i, oAdd_s, oAdd_l, oAdd_t, oAddL_l, oSub_i, oMul_i, oMul_s, oMul_l, oMulL_l, oMul_t, oDiv_i, oMod_i, oLt_i, oLe_i, oLt_s, oLe_s, oGt_i, oGe_i, oEq_i, oNe_i, oEq_s, oNe_s, oIs_n, oIsNot_n, oIs_b, oIn_s, bLen_l, bLen_t, bLen_s, bInt_i, bStr_s, bTuple_l, bTuple_t, bList_l, bList_t, itemsOf_l, itemsOf_t, itemsOf_s, isTy, isNonB, bTupleA_l, bTupleA_t, bTupleA_s, bListA_l, bListA_t, bListA_s, bRev_l, bRev_t, bRev_s, mCount_s, sZip_e, sEnum_e, sComp2_e, sLstR_e, sTupR_e, tgTup2_e, sUnp_e, unpD_2, unpD_3, unpD_4, bAll_2, oIx_s, oIx_l, oIx_t, oSl_s, oSl_l, oSl_t, oNe_ln, oEq_ln, Option.bind_some, Option.bind_none, Option.map_some, Option.map_none, List.set_cons_zero, List.set_cons_succ, List.map_cons, List.map_nil, List.replicate_succ, List.replicate_zero, List.cons_append, List.nil_append, List.length_cons, List.length_nil, if_true, if_false, Bool.not_true, Bool.not_false, Bool.false_eq_true, reduceIte, decide_true, decide_false, Bool.true_and, Bool.false_and, Bool.and_true, Bool.and_false, Nat.reduceLeDiff, Nat.reduceAdd, Nat.zero_add, and_self, and_true, true_and, and_false, false_and]
  rfl
end Wk
set_option Elab.async false
set_option linter.all false
set_option maxRecDepth 3000
set_option maxHeartbeats 1000000
namespace Wk
open PySem PySem.Spec PyProof.Rows L2
def optN : Option Nat → D
  | none => .none
  | some k => nD k
def optD : Option (List Nat) → D
  | none => .none
  | some t => ps t
theorem forD_ret {tg : STg} {b : SS} {d : D} {r : List D} {Γ Γ' : Ev} {c c2 : Cup} {v : D} (h1 : tg d Γ = some Γ') (h2 : b Γ' c = some (.rt v c2)) : forD tg b (d :: r) Γ c = some (.rt v c2) := by
  show (tg d Γ).bind _ = _
  rw [h1]
  show (b Γ' c).bind _ = _
  rw [h2]
  rfl
theorem hold_loop {w : List Nat} {n : Nat} {c : Cup} (w0 : 1 ≤ w.length) (n1 : n ≤ 24) : ∀ {ks : List Nat} {x : Option D}, (∀ k ∈ ks, 1 ≤ k ∧ k ≤ 40) → ∃ y, forD (tgN 2) b_rounds_to_hold_1 (ks.map nD) [some (ps w), some (nD n), x] c = match ks.find? (ho w n) with
    | some k => some (.rt (nD k) c)
    | none => some (.nx [some (ps w), some (nD n), y] c)
  | [], x, _ => ⟨x, rfl⟩
  | k :: r, x, h => by
    have hk := h k List.mem_cons_self
    obtain ⟨y, ih⟩ := hold_loop w0 n1 (ks := r) (x := some (nD k)) fun j hj => h j (List.mem_cons_of_mem _ hj)
    refine ⟨y, ?_⟩
    have e : b_rounds_to_hold_1 [some (ps w), some (nD n), some (nD k)] c = if ho w n k then some (.rt (nD k) c) else some (.nx [some (ps w), some (nD n), some (nD k)] c) := by
      simp -implicitDefEqProofs (disch := (first | omega | assumption | (simp only [List.length_append, List.length_map, rangeD_len, List.length_cons, List.length_nil, List.length_range, List.length_reverse]; omega))) only [sVar_0, sVar_1, sVar_2, sVar_3, sVar_4, sVar_5, sVar_6, sVar_7, sVar_8, sVar_9, sVar_10, sVar_11, sVar_12, sVar_13, sVar_14, sVar_15, sVar_16, sVar_17, sVar_18, sVar_19, sVar_20, sVar_21, sVar_22, sVar_23, sVar_24, sVar_25, sVar_26, sVar_27, sVar_28, sVar_29, sVar_30, sVar_31, sVar_32, sVar_33, sVar_34, sC_e, sDct_e, bSortedA_l, bSortedA_t, bSortedA_s, sOp_e, sU_e, sB_b, boolD_b, sAnd_e, sOr_e, sNot_e, sAndV_e, sOrV_e, sNotV_e, sIf_e, sNeg_e, negD_i, sCall_e, sNil_e, sCons_e, sTup_e, sLst_e, sIsi_e, sNoP_e, sPart_e, intD_i, sSl_e, sCup0_e, sCup1_e, sChain_e, sSkip_e, sSeq_e, thenO_nx, thenO_rt, thenO_bk, thenO_ct, sDrop_e, sRet_e, sRetN_e, sIte_e, sSet_e, sSets_e, setAll_nil, setAll_cons, sApp_e, sExt_e, sPut_e, sAug_e, sAugI_e, sPut0_e, sPut1_e, put0_i, put1_i, sFor_e, sItems_e, sRange1_e, range1_i, sRange2_e, sComp_e, tgN_e, wipeE_nil, wipeE_cons, sYes_e, runD_e, outR_rt, outR_nx, env0_t, env0_f, oAdd_i, oAdd_s, oAdd_l, oAdd_t, oAddL_l, oSub_i, oMul_i, oMul_s, oMul_l, oMulL_l, oMul_t, oDiv_i, oMod_i, oLt_i, oLe_i, oLt_s, oLe_s, oGt_i, oGe_i, oEq_i, oNe_i, oEq_s, oNe_s, oIs_n, oIsNot_n, oIs_b, oIn_s, bLen_l, bLen_t, bLen_s, bInt_i, bStr_s, bTuple_l, bTuple_t, bList_l, bList_t, itemsOf_l, itemsOf_t, itemsOf_s, isTy, isNonB, bTupleA_l, bTupleA_t, bTupleA_s, bListA_l, bListA_t, bListA_s, bRev_l, bRev_t, bRev_s, mCount_s, sZip_e, sEnum_e, sComp2_e, sLstR_e, sTupR_e, tgTup2_e, sUnp_e, unpD_2, unpD_3, unpD_4, bAll_2, oIx_s, oIx_l, oIx_t, oSl_s, oSl_l, oSl_t, oNe_ln, oEq_ln, Option.bind_some, Option.bind_none, Option.map_some, Option.map_none, List.set_cons_zero, List.set_cons_succ, List.map_cons, List.map_nil, List.replicate_succ, List.replicate_zero, List.cons_append, List.nil_append, List.length_cons, List.length_nil, if_true, if_false, Bool.not_true, Bool.not_false, Bool.false_eq_true, reduceIte, decide_true, decide_false, Bool.true_and, Bool.false_and, Bool.and_true, Bool.and_false, Nat.reduceLeDiff, Nat.reduceAdd, Nat.zero_add, and_self, and_true, true_and, and_false, false_and, rounds_in_t (w := w) (n := n) (h := k) w0 n1 hk.2, holds_in_t (w := w) (n := n) hk.1 hk.2 n1]
    rw [List.map_cons, List.find?_cons]
    cases hk2 : ho w n k with
    | true =>
      rw [hk2, if_pos rfl] at e
      exact forD_ret rfl e
    | false =>
      rw [hk2, if_neg (by decide)] at e
      exact forD_step rfl e ih
theorem to_hold_t {w : List Nat} {n : Nat} {c : Cup} (W : Word w) (n0 : 3 ≤ n) (n1 : n ≤ 24) : m_rounds_to_hold [ps w, nD n] c = some (optN ((upto w.length).find? (ho w n)), c) := by
  have h1 := W.hi
  unfold m_rounds_to_hold b_rounds_to_hold
  obtain ⟨y, e⟩ := hold_loop (c := c) (n := n) W.lo n1 (ks := upto w.length) (x := none) fun k hk => by have := upto_mem hk; omega
  simp -implicitDefEqProofs (disch := (first | omega | assumption | (simp only [List.length_append, List.length_map, rangeD_len, List.length_cons, List.length_nil, List.length_range, List.length_reverse]; omega))) only [sVar_0, sVar_1, sVar_2, sVar_3, sVar_4, sVar_5, sVar_6, sVar_7, sVar_8, sVar_9, sVar_10, sVar_11, sVar_12, sVar_13, sVar_14, sVar_15, sVar_16, sVar_17, sVar_18, sVar_19, sVar_20, sVar_21, sVar_22, sVar_23, sVar_24, sVar_25, sVar_26, sVar_27, sVar_28, sVar_29, sVar_30, sVar_31, sVar_32, sVar_33, sVar_34, sC_e, sDct_e, bSortedA_l, bSortedA_t, bSortedA_s, sOp_e, sU_e, sB_b, boolD_b, sAnd_e, sOr_e, sNot_e, sAndV_e, sOrV_e, sNotV_e, sIf_e, sNeg_e, negD_i, sCall_e, sNil_e, sCons_e, sTup_e, sLst_e, sIsi_e, sNoP_e, sPart_e, intD_i, sSl_e, sCup0_e, sCup1_e, sChain_e, sSkip_e, sSeq_e, thenO_nx, thenO_rt, thenO_bk, thenO_ct, sDrop_e, sRet_e, sRetN_e, sIte_e, sSet_e, sSets_e, setAll_nil, setAll_cons, sApp_e, sExt_e, sPut_e, sAug_e, sAugI_e, sPut0_e, sPut1_e, put0_i, put1_i, sFor_e, sItems_e, sRange1_e, range1_i, sRange2_e, sComp_e, tgN_e, wipeE_nil, wipeE_cons, sYes_e, runD_e, outR_rt, outR_nx, env0_t, env0_f, oAdd_i, oAdd_s, oAdd_l, oAdd_t, oAddL_l, oSub_i, oMul_i, oMul_s, oMul_l, oMulL_l, oMul_t, oDiv_i, oMod_i, oLt_i, oLe_i, oLt_s, oLe_s, oGt_i, oGe_i, oEq_i, oNe_i, oEq_s, oNe_s, oIs_n, oIsNot_n, oIs_b, oIn_s, bLen_l, bLen_t, bLen_s, bInt_i, bStr_s, bTuple_l, bTuple_t, bList_l, bList_t, itemsOf_l, itemsOf_t, itemsOf_s, isTy, isNonB, bTupleA_l, bTupleA_t, bTupleA_s, bListA_l, bListA_t, bListA_s, bRev_l, bRev_t, bRev_s, mCount_s, sZip_e, sEnum_e, sComp2_e, sLstR_e, sTupR_e, tgTup2_e, sUnp_e, unpD_2, unpD_3, unpD_4, bAll_2, oIx_s, oIx_l, oIx_t, oSl_s, oSl_l, oSl_t, oNe_ln, oEq_ln, Option.bind_some, Option.bind_none, Option.map_some, Option.map_none, List.set_cons_zero, List.set_cons_succ, List.map_cons, List.map_nil, List.replicate_succ, List.replicate_zero, List.cons_append, List.nil_append, List.length_cons, List.length_nil, if_true, if_false, Bool.not_true, Bool.not_false, Bool.false_eq_true, reduceIte, decide_true, decide_false, Bool.true_and, Bool.false_and, Bool.and_true, Bool.and_false, Nat.reduceLeDiff, Nat.reduceAdd, Nat.zero_add, and_self, and_true, true_and, and_false, false_and, need_word_w W, need_stakes_i n0 n1, range2_up (n := w.length) (by omega)]
  rw [e]
  clear e
  cases (upto w.length).find? (ho w n) with
  | none => simp -implicitDefEqProofs (disch := (first | omega | assumption | (simp only [List.length_append, List.length_map, rangeD_len, List.length_cons, List.length_nil, List.length_range, List.length_reverse]; omega))) only [sVar_0, sVar_1, sVar_2, sVar_3, sVar_4, sVar_5, sVar_6, sVar_7, sVar_8, sVar_9, sVar_10, sVar_11, sVar_12, sVar_13, sVar_14, sVar_15, sVar_16, sVar_17, sVar_18, sVar_19, sVar_20, sVar_21, sVar_22, sVar_23, sVar_24, sVar_25, sVar_26, sVar_27, sVar_28, sVar_29, sVar_30, sVar_31, sVar_32, sVar_33, sVar_34, sC_e, sDct_e, bSortedA_l, bSortedA_t, bSortedA_s, sOp_e, sU_e, sB_b, boolD_b, sAnd_e, sOr_e, sNot_e, sAndV_e, sOrV_e, sNotV_e, sIf_e, sNeg_e, negD_i, sCall_e, sNil_e, sCons_e, sTup_e, sLst_e, sIsi_e, sNoP_e, sPart_e, intD_i, sSl_e, sCup0_e, sCup1_e, sChain_e, sSkip_e, sSeq_e, thenO_nx, thenO_rt, thenO_bk, thenO_ct, sDrop_e, sRet_e, sRetN_e, sIte_e, sSet_e, sSets_e, setAll_nil, setAll_cons, sApp_e, sExt_e, sPut_e, sAug_e, sAugI_e, sPut0_e, sPut1_e, put0_i, put1_i, sFor_e, sItems_e, sRange1_e, range1_i, sRange2_e, sComp_e, tgN_e, wipeE_nil, wipeE_cons, sYes_e, runD_e, outR_rt, outR_nx, env0_t, env0_f, oAdd_i, oAdd_s, oAdd_l, oAdd_t, oAddL_l, oSub_i, oMul_i, oMul_s, oMul_l, oMulL_l, oMul_t, oDiv_i, oMod_i, oLt_i, oLe_i, oLt_s, oLe_s, oGt_i, oGe_i, oEq_i, oNe_i, oEq_s, oNe_s, oIs_n, oIsNot_n, oIs_b, oIn_s, bLen_l, bLen_t, bLen_s, bInt_i, bStr_s, bTuple_l, bTuple_t, bList_l, bList_t, itemsOf_l, itemsOf_t, itemsOf_s, isTy, isNonB, bTupleA_l, bTupleA_t, bTupleA_s, bListA_l, bListA_t, bListA_s, bRev_l, bRev_t, bRev_s, mCount_s, sZip_e, sEnum_e, sComp2_e, sLstR_e, sTupR_e, tgTup2_e, sUnp_e, unpD_2, unpD_3, unpD_4, bAll_2, oIx_s, oIx_l, oIx_t, oSl_s, oSl_l, oSl_t, oNe_ln, oEq_ln, Option.bind_some, Option.bind_none, Option.map_some, Option.map_none, List.set_cons_zero, List.set_cons_succ, List.map_cons, List.map_nil, List.replicate_succ, List.replicate_zero, List.cons_append, List.nil_append, List.length_cons, List.length_nil, if_true, if_false, Bool.not_true, Bool.not_false, Bool.false_eq_true, reduceIte, decide_true, decide_false, Bool.true_and, Bool.false_and, Bool.and_true, Bool.and_false, Nat.reduceLeDiff, Nat.reduceAdd, Nat.zero_add, and_self, and_true, true_and, and_false, false_and, optN]
  | some k => simp -implicitDefEqProofs (disch := (first | omega | assumption | (simp only [List.length_append, List.length_map, rangeD_len, List.length_cons, List.length_nil, List.length_range, List.length_reverse]; omega))) only [sVar_0, sVar_1, sVar_2, sVar_3, sVar_4, sVar_5, sVar_6, sVar_7, sVar_8, sVar_9, sVar_10, sVar_11, sVar_12, sVar_13, sVar_14, sVar_15, sVar_16, sVar_17, sVar_18, sVar_19, sVar_20, sVar_21, sVar_22, sVar_23, sVar_24, sVar_25, sVar_26, sVar_27, sVar_28, sVar_29, sVar_30, sVar_31, sVar_32, sVar_33, sVar_34, sC_e, sDct_e, bSortedA_l, bSortedA_t, bSortedA_s, sOp_e, sU_e, sB_b, boolD_b, sAnd_e, sOr_e, sNot_e, sAndV_e, sOrV_e, sNotV_e, sIf_e, sNeg_e, negD_i, sCall_e, sNil_e, sCons_e, sTup_e, sLst_e, sIsi_e, sNoP_e, sPart_e, intD_i, sSl_e, sCup0_e, sCup1_e, sChain_e, sSkip_e, sSeq_e, thenO_nx, thenO_rt, thenO_bk, thenO_ct, sDrop_e, sRet_e, sRetN_e, sIte_e, sSet_e, sSets_e, setAll_nil, setAll_cons, sApp_e, sExt_e, sPut_e, sAug_e, sAugI_e, sPut0_e, sPut1_e, put0_i, put1_i, sFor_e, sItems_e, sRange1_e, range1_i, sRange2_e, sComp_e, tgN_e, wipeE_nil, wipeE_cons, sYes_e, runD_e, outR_rt, outR_nx, env0_t, env0_f, oAdd_i, oAdd_s, oAdd_l, oAdd_t, oAddL_l, oSub_i, oMul_i, oMul_s, oMul_l, oMulL_l, oMul_t, oDiv_i, oMod_i, oLt_i, oLe_i, oLt_s, oLe_s, oGt_i, oGe_i, oEq_i, oNe_i, oEq_s, oNe_s, oIs_n, oIsNot_n, oIs_b, oIn_s, bLen_l, bLen_t, bLen_s, bInt_i, bStr_s, bTuple_l, bTuple_t, bList_l, bList_t, itemsOf_l, itemsOf_t, itemsOf_s, isTy, isNonB, bTupleA_l, bTupleA_t, bTupleA_s, bListA_l, bListA_t, bListA_s, bRev_l, bRev_t, bRev_s, mCount_s, sZip_e, sEnum_e, sComp2_e, sLstR_e, sTupR_e, tgTup2_e, sUnp_e, unpD_2, unpD_3, unpD_4, bAll_2, oIx_s, oIx_l, oIx_t, oSl_s, oSl_l, oSl_t, oNe_ln, oEq_ln, Option.bind_some, Option.bind_none, Option.map_some, Option.map_none, List.set_cons_zero, List.set_cons_succ, List.map_cons, List.map_nil, List.replicate_succ, List.replicate_zero, List.cons_append, List.nil_append, List.length_cons, List.length_nil, if_true, if_false, Bool.not_true, Bool.not_false, Bool.false_eq_true, reduceIte, decide_true, decide_false, Bool.true_and, Bool.false_and, Bool.and_true, Bool.and_false, Nat.reduceLeDiff, Nat.reduceAdd, Nat.zero_add, and_self, and_true, true_and, and_false, false_and, optN]
theorem need_length_i {k : Nat} {c : Cup} (h0 : 1 ≤ k) (h1 : k ≤ 8) : m_need_length [.int k] c = some (.none, c) := by
  unfold m_need_length b_need_length
  simp -implicitDefEqProofs (disch := (first | omega | assumption | (simp only [List.length_append, List.length_map, rangeD_len, List.length_cons, List.length_nil, List.length_range, List.length_reverse]; omega))) only [sVar_0, sVar_1, sVar_2, sVar_3, sVar_4, sVar_5, sVar_6, sVar_7, sVar_8, sVar_9, sVar_10, sVar_11, sVar_12, sVar_13, sVar_14, sVar_15, sVar_16, sVar_17, sVar_18, sVar_19, sVar_20, sVar_21, sVar_22, sVar_23, sVar_24, sVar_25, sVar_26, sVar_27, sVar_28, sVar_29, sVar_30, sVar_31, sVar_32, sVar_33, sVar_34, sC_e, sDct_e, bSortedA_l, bSortedA_t, bSortedA_s, sOp_e, sU_e, sB_b, boolD_b, sAnd_e, sOr_e, sNot_e, sAndV_e, sOrV_e, sNotV_e, sIf_e, sNeg_e, negD_i, sCall_e, sNil_e, sCons_e, sTup_e, sLst_e, sIsi_e, sNoP_e, sPart_e, intD_i, sSl_e, sCup0_e, sCup1_e, sChain_e, sSkip_e, sSeq_e, thenO_nx, thenO_rt, thenO_bk, thenO_ct, sDrop_e, sRet_e, sRetN_e, sIte_e, sSet_e, sSets_e, setAll_nil, setAll_cons, sApp_e, sExt_e, sPut_e, sAug_e, sAugI_e, sPut0_e, sPut1_e, put0_i, put1_i, sFor_e, sItems_e, sRange1_e, range1_i, sRange2_e, sComp_e, tgN_e, wipeE_nil, wipeE_cons, sYes_e, runD_e, outR_rt, outR_nx, env0_t, env0_f, oAdd_i, oAdd_s, oAdd_l, oAdd_t, oAddL_l, oSub_i, oMul_i, oMul_s, oMul_l, oMulL_l, oMul_t, oDiv_i, oMod_i, oLt_i, oLe_i, oLt_s, oLe_s, oGt_i, oGe_i, oEq_i, oNe_i, oEq_s, oNe_s, oIs_n, oIsNot_n, oIs_b, oIn_s, bLen_l, bLen_t, bLen_s, bInt_i, bStr_s, bTuple_l, bTuple_t, bList_l, bList_t, itemsOf_l, itemsOf_t, itemsOf_s, isTy, isNonB, bTupleA_l, bTupleA_t, bTupleA_s, bListA_l, bListA_t, bListA_s, bRev_l, bRev_t, bRev_s, mCount_s, sZip_e, sEnum_e, sComp2_e, sLstR_e, sTupR_e, tgTup2_e, sUnp_e, unpD_2, unpD_3, unpD_4, bAll_2, oIx_s, oIx_l, oIx_t, oSl_s, oSl_l, oSl_t, oNe_ln, oEq_ln, Option.bind_some, Option.bind_none, Option.map_some, Option.map_none, List.set_cons_zero, List.set_cons_succ, List.map_cons, List.map_nil, List.replicate_succ, List.replicate_zero, List.cons_append, List.nil_append, List.length_cons, List.length_nil, if_true, if_false, Bool.not_true, Bool.not_false, Bool.false_eq_true, reduceIte, decide_true, decide_false, Bool.true_and, Bool.false_and, Bool.and_true, Bool.and_false, Nat.reduceLeDiff, Nat.reduceAdd, Nat.zero_add, and_self, and_true, true_and, and_false, false_and, fits_whole_i (i := (k : Int)) (lo := 1) (hi := 8) (by omega) (by omega)]
theorem holding_many_t {n h k : Nat} {c : Cup} (n0 : 3 ≤ n) (n1 : n ≤ 24) (h0 : 1 ≤ h) (h1 : h ≤ 40) (k0 : 1 ≤ k) (k1 : k ≤ 8) : m_holding_many [nD n, nD h, nD k] c = some (nD (hold n h k).length, c) := by
  unfold m_holding_many b_holding_many
  simp -implicitDefEqProofs (disch := (first | omega | assumption | (simp only [List.length_append, List.length_map, rangeD_len, List.length_cons, List.length_nil, List.length_range, List.length_reverse]; omega))) only [sVar_0, sVar_1, sVar_2, sVar_3, sVar_4, sVar_5, sVar_6, sVar_7, sVar_8, sVar_9, sVar_10, sVar_11, sVar_12, sVar_13, sVar_14, sVar_15, sVar_16, sVar_17, sVar_18, sVar_19, sVar_20, sVar_21, sVar_22, sVar_23, sVar_24, sVar_25, sVar_26, sVar_27, sVar_28, sVar_29, sVar_30, sVar_31, sVar_32, sVar_33, sVar_34, sC_e, sDct_e, bSortedA_l, bSortedA_t, bSortedA_s, sOp_e, sU_e, sB_b, boolD_b, sAnd_e, sOr_e, sNot_e, sAndV_e, sOrV_e, sNotV_e, sIf_e, sNeg_e, negD_i, sCall_e, sNil_e, sCons_e, sTup_e, sLst_e, sIsi_e, sNoP_e, sPart_e, intD_i, sSl_e, sCup0_e, sCup1_e, sChain_e, sSkip_e, sSeq_e, thenO_nx, thenO_rt, thenO_bk, thenO_ct, sDrop_e, sRet_e, sRetN_e, sIte_e, sSet_e, sSets_e, setAll_nil, setAll_cons, sApp_e, sExt_e, sPut_e, sAug_e, sAugI_e, sPut0_e, sPut1_e, put0_i, put1_i, sFor_e, sItems_e, sRange1_e, range1_i, sRange2_e, sComp_e, tgN_e, wipeE_nil, wipeE_cons, sYes_e, runD_e, outR_rt, outR_nx, env0_t, env0_f, oAdd_i, oAdd_s, oAdd_l, oAdd_t, oAddL_l, oSub_i, oMul_i, oMul_s, oMul_l, oMulL_l, oMul_t, oDiv_i, oMod_i, oLt_i, oLe_i, oLt_s, oLe_s, oGt_i, oGe_i, oEq_i, oNe_i, oEq_s, oNe_s, oIs_n, oIsNot_n, oIs_b, oIn_s, bLen_l, bLen_t, bLen_s, bInt_i, bStr_s, bTuple_l, bTuple_t, bList_l, bList_t, itemsOf_l, itemsOf_t, itemsOf_s, isTy, isNonB, bTupleA_l, bTupleA_t, bTupleA_s, bListA_l, bListA_t, bListA_s, bRev_l, bRev_t, bRev_s, mCount_s, sZip_e, sEnum_e, sComp2_e, sLstR_e, sTupR_e, tgTup2_e, sUnp_e, unpD_2, unpD_3, unpD_4, bAll_2, oIx_s, oIx_l, oIx_t, oSl_s, oSl_l, oSl_t, oNe_ln, oEq_ln, Option.bind_some, Option.bind_none, Option.map_some, Option.map_none, List.set_cons_zero, List.set_cons_succ, List.map_cons, List.map_nil, List.replicate_succ, List.replicate_zero, List.cons_append, List.nil_append, List.length_cons, List.length_nil, if_true, if_false, Bool.not_true, Bool.not_false, Bool.false_eq_true, reduceIte, decide_true, decide_false, Bool.true_and, Bool.false_and, Bool.and_true, Bool.and_false, Nat.reduceLeDiff, Nat.reduceAdd, Nat.zero_add, and_self, and_true, true_and, and_false, false_and, need_stakes_i n0 n1, need_rounds_i h0 h1, need_length_i k0 k1, holding_in_t h0 h1 n1 k0 k1, List.length_map]
def fh (n h : Nat) (ks : List Nat) : Option (List Nat) := ks.findSome? fun k => (hold n h k).head?
theorem first_loop {n h : Nat} {c : Cup} (h0 : 1 ≤ h) (h1 : h ≤ 40) (n1 : n ≤ 24) : ∀ {ks : List Nat} {x y : Option D}, (∀ k ∈ ks, 1 ≤ k ∧ k ≤ 8) → ∃ x' y', forD (tgN 2) b_first_holding_1 (ks.map nD) [some (nD n), some (nD h), x, y] c = match fh n h ks with
    | some v => some (.rt (ps v) c)
    | none => some (.nx [some (nD n), some (nD h), x', y'] c)
  | [], x, y, _ => ⟨x, y, rfl⟩
  | k :: r, x, y, hh => by
    have hk := hh k List.mem_cons_self
    obtain ⟨x', y', ih⟩ := first_loop h0 h1 n1 (ks := r) (x := some (nD k)) (y := some (.list ((hold n h k).map ps))) fun j hj => hh j (List.mem_cons_of_mem _ hj)
    refine ⟨x', y', ?_⟩
    rw [List.map_cons]
    have e := holding_in_t (n := n) (h := h) (k := k) (c := c) h0 h1 n1 hk.1 hk.2
    unfold fh
    rw [List.findSome?_cons]
    cases hd : hold n h k with
    | nil =>
      rw [hd] at e ih
      have e2 : b_first_holding_1 [some (nD n), some (nD h), some (nD k), y] c = some (.nx [some (nD n), some (nD h), some (nD k), some (.list [])] c) := by
        simp -implicitDefEqProofs (disch := (first | omega | assumption | (simp only [List.length_append, List.length_map, rangeD_len, List.length_cons, List.length_nil, List.length_range, List.length_reverse]; omega))) only [sVar_0, sVar_1, sVar_2, sVar_3, sVar_4, sVar_5, sVar_6, sVar_7, sVar_8, sVar_9, sVar_10, sVar_11, sVar_12, sVar_13, sVar_14, sVar_15, sVar_16, sVar_17, sVar_18, sVar_19, sVar_20, sVar_21, sVar_22, sVar_23, sVar_24, sVar_25, sVar_26, sVar_27, sVar_28, sVar_29, sVar_30, sVar_31, sVar_32, sVar_33, sVar_34, sC_e, sDct_e, bSortedA_l, bSortedA_t, bSortedA_s, sOp_e, sU_e, sB_b, boolD_b, sAnd_e, sOr_e, sNot_e, sAndV_e, sOrV_e, sNotV_e, sIf_e, sNeg_e, negD_i, sCall_e, sNil_e, sCons_e, sTup_e, sLst_e, sIsi_e, sNoP_e, sPart_e, intD_i, sSl_e, sCup0_e, sCup1_e, sChain_e, sSkip_e, sSeq_e, thenO_nx, thenO_rt, thenO_bk, thenO_ct, sDrop_e, sRet_e, sRetN_e, sIte_e, sSet_e, sSets_e, setAll_nil, setAll_cons, sApp_e, sExt_e, sPut_e, sAug_e, sAugI_e, sPut0_e, sPut1_e, put0_i, put1_i, sFor_e, sItems_e, sRange1_e, range1_i, sRange2_e, sComp_e, tgN_e, wipeE_nil, wipeE_cons, sYes_e, runD_e, outR_rt, outR_nx, env0_t, env0_f, oAdd_i, oAdd_s, oAdd_l, oAdd_t, oAddL_l, oSub_i, oMul_i, oMul_s, oMul_l, oMulL_l, oMul_t, oDiv_i, oMod_i, oLt_i, oLe_i, oLt_s, oLe_s, oGt_i, oGe_i, oEq_i, oNe_i, oEq_s, oNe_s, oIs_n, oIsNot_n, oIs_b, oIn_s, bLen_l, bLen_t, bLen_s, bInt_i, bStr_s, bTuple_l, bTuple_t, bList_l, bList_t, itemsOf_l, itemsOf_t, itemsOf_s, isTy, isNonB, bTupleA_l, bTupleA_t, bTupleA_s, bListA_l, bListA_t, bListA_s, bRev_l, bRev_t, bRev_s, mCount_s, sZip_e, sEnum_e, sComp2_e, sLstR_e, sTupR_e, tgTup2_e, sUnp_e, unpD_2, unpD_3, unpD_4, bAll_2, oIx_s, oIx_l, oIx_t, oSl_s, oSl_l, oSl_t, oNe_ln, oEq_ln, Option.bind_some, Option.bind_none, Option.map_some, Option.map_none, List.set_cons_zero, List.set_cons_succ, List.map_cons, List.map_nil, List.replicate_succ, List.replicate_zero, List.cons_append, List.nil_append, List.length_cons, List.length_nil, if_true, if_false, Bool.not_true, Bool.not_false, Bool.false_eq_true, reduceIte, decide_true, decide_false, Bool.true_and, Bool.false_and, Bool.and_true, Bool.and_false, Nat.reduceLeDiff, Nat.reduceAdd, Nat.zero_add, and_self, and_true, true_and, and_false, false_and, e, List.isEmpty_nil]
      exact forD_step rfl e2 ih
    | cons v t =>
      rw [hd] at e
      have ha : atI (ps v :: t.map ps) 0 = some (ps v) := by
        rw [atI_lt (by omega) (by rw [List.length_cons]; omega)]
        rfl
      have e2 : b_first_holding_1 [some (nD n), some (nD h), some (nD k), y] c = some (.rt (ps v) c) := by
        simp -implicitDefEqProofs (disch := (first | omega | assumption | (simp only [List.length_append, List.length_map, rangeD_len, List.length_cons, List.length_nil, List.length_range, List.length_reverse]; omega))) only [sVar_0, sVar_1, sVar_2, sVar_3, sVar_4, sVar_5, sVar_6, sVar_7, sVar_8, sVar_9, sVar_10, sVar_11, sVar_12, sVar_13, sVar_14, sVar_15, sVar_16, sVar_17, sVar_18, sVar_19, sVar_20, sVar_21, sVar_22, sVar_23, sVar_24, sVar_25, sVar_26, sVar_27, sVar_28, sVar_29, sVar_30, sVar_31, sVar_32, sVar_33, sVar_34, sC_e, sDct_e, bSortedA_l, bSortedA_t, bSortedA_s, sOp_e, sU_e, sB_b, boolD_b, sAnd_e, sOr_e, sNot_e, sAndV_e, sOrV_e, sNotV_e, sIf_e, sNeg_e, negD_i, sCall_e, sNil_e, sCons_e, sTup_e, sLst_e, sIsi_e, sNoP_e, sPart_e, intD_i, sSl_e, sCup0_e, sCup1_e, sChain_e, sSkip_e, sSeq_e, thenO_nx, thenO_rt, thenO_bk, thenO_ct, sDrop_e, sRet_e, sRetN_e, sIte_e, sSet_e, sSets_e, setAll_nil, setAll_cons, sApp_e, sExt_e, sPut_e, sAug_e, sAugI_e, sPut0_e, sPut1_e, put0_i, put1_i, sFor_e, sItems_e, sRange1_e, range1_i, sRange2_e, sComp_e, tgN_e, wipeE_nil, wipeE_cons, sYes_e, runD_e, outR_rt, outR_nx, env0_t, env0_f, oAdd_i, oAdd_s, oAdd_l, oAdd_t, oAddL_l, oSub_i, oMul_i, oMul_s, oMul_l, oMulL_l, oMul_t, oDiv_i, oMod_i, oLt_i, oLe_i, oLt_s, oLe_s, oGt_i, oGe_i, oEq_i, oNe_i, oEq_s, oNe_s, oIs_n, oIsNot_n, oIs_b, oIn_s, bLen_l, bLen_t, bLen_s, bInt_i, bStr_s, bTuple_l, bTuple_t, bList_l, bList_t, itemsOf_l, itemsOf_t, itemsOf_s, isTy, isNonB, bTupleA_l, bTupleA_t, bTupleA_s, bListA_l, bListA_t, bListA_s, bRev_l, bRev_t, bRev_s, mCount_s, sZip_e, sEnum_e, sComp2_e, sLstR_e, sTupR_e, tgTup2_e, sUnp_e, unpD_2, unpD_3, unpD_4, bAll_2, oIx_s, oIx_l, oIx_t, oSl_s, oSl_l, oSl_t, oNe_ln, oEq_ln, Option.bind_some, Option.bind_none, Option.map_some, Option.map_none, List.set_cons_zero, List.set_cons_succ, List.map_cons, List.map_nil, List.replicate_succ, List.replicate_zero, List.cons_append, List.nil_append, List.length_cons, List.length_nil, if_true, if_false, Bool.not_true, Bool.not_false, Bool.false_eq_true, reduceIte, decide_true, decide_false, Bool.true_and, Bool.false_and, Bool.and_true, Bool.and_false, Nat.reduceLeDiff, Nat.reduceAdd, Nat.zero_add, and_self, and_true, true_and, and_false, false_and, e, List.isEmpty_cons, ha]
      exact forD_ret rfl e2
theorem first_holding_t {n h : Nat} {c : Cup} (n0 : 3 ≤ n) (n1 : n ≤ 24) (h0 : 1 ≤ h) (h1 : h ≤ 40) : m_first_holding [nD n, nD h] c = some (optD (fh n h (upto 8)), c) := by
  have hr : range2 (.int 1) (.int (8 + 1)) = some ((upto 8).map nD) := rfl
  obtain ⟨x', y', e⟩ := first_loop (n := n) (c := c) h0 h1 n1 (ks := upto 8) (x := none) (y := none) fun k hk => upto_mem hk
  unfold m_first_holding b_first_holding
  simp -implicitDefEqProofs (disch := (first | omega | assumption | (simp only [List.length_append, List.length_map, rangeD_len, List.length_cons, List.length_nil, List.length_range, List.length_reverse]; omega))) only [sVar_0, sVar_1, sVar_2, sVar_3, sVar_4, sVar_5, sVar_6, sVar_7, sVar_8, sVar_9, sVar_10, sVar_11, sVar_12, sVar_13, sVar_14, sVar_15, sVar_16, sVar_17, sVar_18, sVar_19, sVar_20, sVar_21, sVar_22, sVar_23, sVar_24, sVar_25, sVar_26, sVar_27, sVar_28, sVar_29, sVar_30, sVar_31, sVar_32, sVar_33, sVar_34, sC_e, sDct_e, bSortedA_l, bSortedA_t, bSortedA_s, sOp_e, sU_e, sB_b, boolD_b, sAnd_e, sOr_e, sNot_e, sAndV_e, sOrV_e, sNotV_e, sIf_e, sNeg_e, negD_i, sCall_e, sNil_e, sCons_e, sTup_e, sLst_e, sIsi_e, sNoP_e, sPart_e, intD_i, sSl_e, sCup0_e, sCup1_e, sChain_e, sSkip_e, sSeq_e, thenO_nx, thenO_rt, thenO_bk, thenO_ct, sDrop_e, sRet_e, sRetN_e, sIte_e, sSet_e, sSets_e, setAll_nil, setAll_cons, sApp_e, sExt_e, sPut_e, sAug_e, sAugI_e, sPut0_e, sPut1_e, put0_i, put1_i, sFor_e, sItems_e, sRange1_e, range1_i, sRange2_e, sComp_e, tgN_e, wipeE_nil, wipeE_cons, sYes_e, runD_e, outR_rt, outR_nx, env0_t, env0_f, oAdd_i, oAdd_s, oAdd_l, oAdd_t, oAddL_l, oSub_i, oMul_i, oMul_s, oMul_l, oMulL_l, oMul_t, oDiv_i, oMod_i, oLt_i, oLe_i, oLt_s, oLe_s, oGt_i, oGe_i, oEq_i, oNe_i, oEq_s, oNe_s, oIs_n, oIsNot_n, oIs_b, oIn_s, bLen_l, bLen_t, bLen_s, bInt_i, bStr_s, bTuple_l, bTuple_t, bList_l, bList_t, itemsOf_l, itemsOf_t, itemsOf_s, isTy, isNonB, bTupleA_l, bTupleA_t, bTupleA_s, bListA_l, bListA_t, bListA_s, bRev_l, bRev_t, bRev_s, mCount_s, sZip_e, sEnum_e, sComp2_e, sLstR_e, sTupR_e, tgTup2_e, sUnp_e, unpD_2, unpD_3, unpD_4, bAll_2, oIx_s, oIx_l, oIx_t, oSl_s, oSl_l, oSl_t, oNe_ln, oEq_ln, Option.bind_some, Option.bind_none, Option.map_some, Option.map_none, List.set_cons_zero, List.set_cons_succ, List.map_cons, List.map_nil, List.replicate_succ, List.replicate_zero, List.cons_append, List.nil_append, List.length_cons, List.length_nil, if_true, if_false, Bool.not_true, Bool.not_false, Bool.false_eq_true, reduceIte, decide_true, decide_false, Bool.true_and, Bool.false_and, Bool.and_true, Bool.and_false, Nat.reduceLeDiff, Nat.reduceAdd, Nat.zero_add, and_self, and_true, true_and, and_false, false_and, need_stakes_i n0 n1, need_rounds_i h0 h1, hr]
  rw [e]
  cases fh n h (upto 8) with
  | none => simp -implicitDefEqProofs (disch := (first | omega | assumption | (simp only [List.length_append, List.length_map, rangeD_len, List.length_cons, List.length_nil, List.length_range, List.length_reverse]; omega))) only [sVar_0, sVar_1, sVar_2, sVar_3, sVar_4, sVar_5, sVar_6, sVar_7, sVar_8, sVar_9, sVar_10, sVar_11, sVar_12, sVar_13, sVar_14, sVar_15, sVar_16, sVar_17, sVar_18, sVar_19, sVar_20, sVar_21, sVar_22, sVar_23, sVar_24, sVar_25, sVar_26, sVar_27, sVar_28, sVar_29, sVar_30, sVar_31, sVar_32, sVar_33, sVar_34, sC_e, sDct_e, bSortedA_l, bSortedA_t, bSortedA_s, sOp_e, sU_e, sB_b, boolD_b, sAnd_e, sOr_e, sNot_e, sAndV_e, sOrV_e, sNotV_e, sIf_e, sNeg_e, negD_i, sCall_e, sNil_e, sCons_e, sTup_e, sLst_e, sIsi_e, sNoP_e, sPart_e, intD_i, sSl_e, sCup0_e, sCup1_e, sChain_e, sSkip_e, sSeq_e, thenO_nx, thenO_rt, thenO_bk, thenO_ct, sDrop_e, sRet_e, sRetN_e, sIte_e, sSet_e, sSets_e, setAll_nil, setAll_cons, sApp_e, sExt_e, sPut_e, sAug_e, sAugI_e, sPut0_e, sPut1_e, put0_i, put1_i, sFor_e, sItems_e, sRange1_e, range1_i, sRange2_e, sComp_e, tgN_e, wipeE_nil, wipeE_cons, sYes_e, runD_e, outR_rt, outR_nx, env0_t, env0_f, oAdd_i, oAdd_s, oAdd_l, oAdd_t, oAddL_l, oSub_i, oMul_i, oMul_s, oMul_l, oMulL_l, oMul_t, oDiv_i, oMod_i, oLt_i, oLe_i, oLt_s, oLe_s, oGt_i, oGe_i, oEq_i, oNe_i, oEq_s, oNe_s, oIs_n, oIsNot_n, oIs_b, oIn_s, bLen_l, bLen_t, bLen_s, bInt_i, bStr_s, bTuple_l, bTuple_t, bList_l, bList_t, itemsOf_l, itemsOf_t, itemsOf_s, isTy, isNonB, bTupleA_l, bTupleA_t, bTupleA_s, bListA_l, bListA_t, bListA_s, bRev_l, bRev_t, bRev_s, mCount_s, sZip_e, sEnum_e, sComp2_e, sLstR_e, sTupR_e, tgTup2_e, sUnp_e, unpD_2, unpD_3, unpD_4, bAll_2, oIx_s, oIx_l, oIx_t, oSl_s, oSl_l, oSl_t, oNe_ln, oEq_ln, Option.bind_some, Option.bind_none, Option.map_some, Option.map_none, List.set_cons_zero, List.set_cons_succ, List.map_cons, List.map_nil, List.replicate_succ, List.replicate_zero, List.cons_append, List.nil_append, List.length_cons, List.length_nil, if_true, if_false, Bool.not_true, Bool.not_false, Bool.false_eq_true, reduceIte, decide_true, decide_false, Bool.true_and, Bool.false_and, Bool.and_true, Bool.and_false, Nat.reduceLeDiff, Nat.reduceAdd, Nat.zero_add, and_self, and_true, true_and, and_false, false_and, optD]
  | some v => simp -implicitDefEqProofs (disch := (first | omega | assumption | (simp only [List.length_append, List.length_map, rangeD_len, List.length_cons, List.length_nil, List.length_range, List.length_reverse]; omega))) only [sVar_0, sVar_1, sVar_2, sVar_3, sVar_4, sVar_5, sVar_6, sVar_7, sVar_8, sVar_9, sVar_10, sVar_11, sVar_12, sVar_13, sVar_14, sVar_15, sVar_16, sVar_17, sVar_18, sVar_19, sVar_20, sVar_21, sVar_22, sVar_23, sVar_24, sVar_25, sVar_26, sVar_27, sVar_28, sVar_29, sVar_30, sVar_31, sVar_32, sVar_33, sVar_34, sC_e, sDct_e, bSortedA_l, bSortedA_t, bSortedA_s, sOp_e, sU_e, sB_b, boolD_b, sAnd_e, sOr_e, sNot_e, sAndV_e, sOrV_e, sNotV_e, sIf_e, sNeg_e, negD_i, sCall_e, sNil_e, sCons_e, sTup_e, sLst_e, sIsi_e, sNoP_e, sPart_e, intD_i, sSl_e, sCup0_e, sCup1_e, sChain_e, sSkip_e, sSeq_e, thenO_nx, thenO_rt, thenO_bk, thenO_ct, sDrop_e, sRet_e, sRetN_e, sIte_e, sSet_e, sSets_e, setAll_nil, setAll_cons, sApp_e, sExt_e, sPut_e, sAug_e, sAugI_e, sPut0_e, sPut1_e, put0_i, put1_i, sFor_e, sItems_e, sRange1_e, range1_i, sRange2_e, sComp_e, tgN_e, wipeE_nil, wipeE_cons, sYes_e, runD_e, outR_rt, outR_nx, env0_t, env0_f, oAdd_i, oAdd_s, oAdd_l, oAdd_t, oAddL_l, oSub_i, oMul_i, oMul_s, oMul_l, oMulL_l, oMul_t, oDiv_i, oMod_i, oLt_i, oLe_i, oLt_s, oLe_s, oGt_i, oGe_i, oEq_i, oNe_i, oEq_s, oNe_s, oIs_n, oIsNot_n, oIs_b, oIn_s, bLen_l, bLen_t, bLen_s, bInt_i, bStr_s, bTuple_l, bTuple_t, bList_l, bList_t, itemsOf_l, itemsOf_t, itemsOf_s, isTy, isNonB, bTupleA_l, bTupleA_t, bTupleA_s, bListA_l, bListA_t, bListA_s, bRev_l, bRev_t, bRev_s, mCount_s, sZip_e, sEnum_e, sComp2_e, sLstR_e, sTupR_e, tgTup2_e, sUnp_e, unpD_2, unpD_3, unpD_4, bAll_2, oIx_s, oIx_l, oIx_t, oSl_s, oSl_l, oSl_t, oNe_ln, oEq_ln, Option.bind_some, Option.bind_none, Option.map_some, Option.map_none, List.set_cons_zero, List.set_cons_succ, List.map_cons, List.map_nil, List.replicate_succ, List.replicate_zero, List.cons_append, List.nil_append, List.length_cons, List.length_nil, if_true, if_false, Bool.not_true, Bool.not_false, Bool.false_eq_true, reduceIte, decide_true, decide_false, Bool.true_and, Bool.false_and, Bool.and_true, Bool.and_false, Nat.reduceLeDiff, Nat.reduceAdd, Nat.zero_add, and_self, and_true, true_and, and_false, false_and, optD]
theorem never_t {n k : Nat} {c : Cup} (n0 : 3 ≤ n) (n1 : n ≤ 24) (k0 : 1 ≤ k) (k1 : k ≤ 8) : m_never_holding [nD n, nD k] c = some (nD ((lw k).filter fun w => !ho w n k).length, c) := by
  have hle : ((lw k).map ps).length ≤ 16777216 := by have := lw_le k1; rw [List.length_map]; omega
  unfold m_never_holding b_never_holding
  simp -implicitDefEqProofs (disch := (first | omega | assumption | (simp only [List.length_append, List.length_map, rangeD_len, List.length_cons, List.length_nil, List.length_range, List.length_reverse]; omega))) only [sVar_0, sVar_1, sVar_2, sVar_3, sVar_4, sVar_5, sVar_6, sVar_7, sVar_8, sVar_9, sVar_10, sVar_11, sVar_12, sVar_13, sVar_14, sVar_15, sVar_16, sVar_17, sVar_18, sVar_19, sVar_20, sVar_21, sVar_22, sVar_23, sVar_24, sVar_25, sVar_26, sVar_27, sVar_28, sVar_29, sVar_30, sVar_31, sVar_32, sVar_33, sVar_34, sC_e, sDct_e, bSortedA_l, bSortedA_t, bSortedA_s, sOp_e, sU_e, sB_b, boolD_b, sAnd_e, sOr_e, sNot_e, sAndV_e, sOrV_e, sNotV_e, sIf_e, sNeg_e, negD_i, sCall_e, sNil_e, sCons_e, sTup_e, sLst_e, sIsi_e, sNoP_e, sPart_e, intD_i, sSl_e, sCup0_e, sCup1_e, sChain_e, sSkip_e, sSeq_e, thenO_nx, thenO_rt, thenO_bk, thenO_ct, sDrop_e, sRet_e, sRetN_e, sIte_e, sSet_e, sSets_e, setAll_nil, setAll_cons, sApp_e, sExt_e, sPut_e, sAug_e, sAugI_e, sPut0_e, sPut1_e, put0_i, put1_i, sFor_e, sItems_e, sRange1_e, range1_i, sRange2_e, sComp_e, tgN_e, wipeE_nil, wipeE_cons, sYes_e, runD_e, outR_rt, outR_nx, env0_t, env0_f, oAdd_i, oAdd_s, oAdd_l, oAdd_t, oAddL_l, oSub_i, oMul_i, oMul_s, oMul_l, oMulL_l, oMul_t, oDiv_i, oMod_i, oLt_i, oLe_i, oLt_s, oLe_s, oGt_i, oGe_i, oEq_i, oNe_i, oEq_s, oNe_s, oIs_n, oIsNot_n, oIs_b, oIn_s, bLen_l, bLen_t, bLen_s, bInt_i, bStr_s, bTuple_l, bTuple_t, bList_l, bList_t, itemsOf_l, itemsOf_t, itemsOf_s, isTy, isNonB, bTupleA_l, bTupleA_t, bTupleA_s, bListA_l, bListA_t, bListA_s, bRev_l, bRev_t, bRev_s, mCount_s, sZip_e, sEnum_e, sComp2_e, sLstR_e, sTupR_e, tgTup2_e, sUnp_e, unpD_2, unpD_3, unpD_4, bAll_2, oIx_s, oIx_l, oIx_t, oSl_s, oSl_l, oSl_t, oNe_ln, oEq_ln, Option.bind_some, Option.bind_none, Option.map_some, Option.map_none, List.set_cons_zero, List.set_cons_succ, List.map_cons, List.map_nil, List.replicate_succ, List.replicate_zero, List.cons_append, List.nil_append, List.length_cons, List.length_nil, if_true, if_false, Bool.not_true, Bool.not_false, Bool.false_eq_true, reduceIte, decide_true, decide_false, Bool.true_and, Bool.false_and, Bool.and_true, Bool.and_false, Nat.reduceLeDiff, Nat.reduceAdd, Nat.zero_add, and_self, and_true, true_and, and_false, false_and, need_stakes_i n0 n1, need_length_i k0 k1, words_in_t k1, hle]
  rw [compD_filterA (h := ps) (g := ps) (p := fun w => !ho w n k) (fun w hw => ⟨_, rfl, by simp -implicitDefEqProofs (disch := (first | omega | assumption | (simp only [List.length_append, List.length_map, rangeD_len, List.length_cons, List.length_nil, List.length_range, List.length_reverse]; omega))) only [sVar_0, sVar_1, sVar_2, sVar_3, sVar_4, sVar_5, sVar_6, sVar_7, sVar_8, sVar_9, sVar_10, sVar_11, sVar_12, sVar_13, sVar_14, sVar_15, sVar_16, sVar_17, sVar_18, sVar_19, sVar_20, sVar_21, sVar_22, sVar_23, sVar_24, sVar_25, sVar_26, sVar_27, sVar_28, sVar_29, sVar_30, sVar_31, sVar_32, sVar_33, sVar_34, sC_e, sDct_e, bSortedA_l, bSortedA_t, bSortedA_s, sOp_e, sU_e, sB_b, boolD_b, sAnd_e, sOr_e, sNot_e, sAndV_e, sOrV_e, sNotV_e, sIf_e, sNeg_e, negD_i, sCall_e, sNil_e, sCons_e, sTup_e, sLst_e, sIsi_e, sNoP_e, sPart_e, intD_i, sSl_e, sCup0_e, sCup1_e, sChain_e, sSkip_e, sSeq_e, thenO_nx, thenO_rt, thenO_bk, thenO_ct, sDrop_e, sRet_e, sRetN_e, sIte_e, sSet_e, sSets_e, setAll_nil, setAll_cons, sApp_e, sExt_e, sPut_e, sAug_e, sAugI_e, sPut0_e, sPut1_e, put0_i, put1_i, sFor_e, sItems_e, sRange1_e, range1_i, sRange2_e, sComp_e, tgN_e, wipeE_nil, wipeE_cons, sYes_e, runD_e, outR_rt, outR_nx, env0_t, env0_f, oAdd_i, oAdd_s, oAdd_l, oAdd_t, oAddL_l, oSub_i, oMul_i, oMul_s, oMul_l, oMulL_l, oMul_t, oDiv_i, oMod_i, oLt_i, oLe_i, oLt_s, oLe_s, oGt_i, oGe_i, oEq_i, oNe_i, oEq_s, oNe_s, oIs_n, oIsNot_n, oIs_b, oIn_s, bLen_l, bLen_t, bLen_s, bInt_i, bStr_s, bTuple_l, bTuple_t, bList_l, bList_t, itemsOf_l, itemsOf_t, itemsOf_s, isTy, isNonB, bTupleA_l, bTupleA_t, bTupleA_s, bListA_l, bListA_t, bListA_s, bRev_l, bRev_t, bRev_s, mCount_s, sZip_e, sEnum_e, sComp2_e, sLstR_e, sTupR_e, tgTup2_e, sUnp_e, unpD_2, unpD_3, unpD_4, bAll_2, oIx_s, oIx_l, oIx_t, oSl_s, oSl_l, oSl_t, oNe_ln, oEq_ln, Option.bind_some, Option.bind_none, Option.map_some, Option.map_none, List.set_cons_zero, List.set_cons_succ, List.map_cons, List.map_nil, List.replicate_succ, List.replicate_zero, List.cons_append, List.nil_append, List.length_cons, List.length_nil, if_true, if_false, Bool.not_true, Bool.not_false, Bool.false_eq_true, reduceIte, decide_true, decide_false, Bool.true_and, Bool.false_and, Bool.and_true, Bool.and_false, Nat.reduceLeDiff, Nat.reduceAdd, Nat.zero_add, and_self, and_true, true_and, and_false, false_and, rounds_in_t (w := w) (n := n) (h := k) (lw_word k0 k1 hw).lo n1 (by omega), holds_in_t (w := w) (n := n) k0 (by omega : k ≤ 40) n1], fun _ => by simp -implicitDefEqProofs (disch := (first | omega | assumption | (simp only [List.length_append, List.length_map, rangeD_len, List.length_cons, List.length_nil, List.length_range, List.length_reverse]; omega))) only [sVar_0, sVar_1, sVar_2, sVar_3, sVar_4, sVar_5, sVar_6, sVar_7, sVar_8, sVar_9, sVar_10, sVar_11, sVar_12, sVar_13, sVar_14, sVar_15, sVar_16, sVar_17, sVar_18, sVar_19, sVar_20, sVar_21, sVar_22, sVar_23, sVar_24, sVar_25, sVar_26, sVar_27, sVar_28, sVar_29, sVar_30, sVar_31, sVar_32, sVar_33, sVar_34, sC_e, sDct_e, bSortedA_l, bSortedA_t, bSortedA_s, sOp_e, sU_e, sB_b, boolD_b, sAnd_e, sOr_e, sNot_e, sAndV_e, sOrV_e, sNotV_e, sIf_e, sNeg_e, negD_i, sCall_e, sNil_e, sCons_e, sTup_e, sLst_e, sIsi_e, sNoP_e, sPart_e, intD_i, sSl_e, sCup0_e, sCup1_e, sChain_e, sSkip_e, sSeq_e, thenO_nx, thenO_rt, thenO_bk, thenO_ct, sDrop_e, sRet_e, sRetN_e, sIte_e, sSet_e, sSets_e, setAll_nil, setAll_cons, sApp_e, sExt_e, sPut_e, sAug_e, sAugI_e, sPut0_e, sPut1_e, put0_i, put1_i, sFor_e, sItems_e, sRange1_e, range1_i, sRange2_e, sComp_e, tgN_e, wipeE_nil, wipeE_cons, sYes_e, runD_e, outR_rt, outR_nx, env0_t, env0_f, oAdd_i, oAdd_s, oAdd_l, oAdd_t, oAddL_l, oSub_i, oMul_i, oMul_s, oMul_l, oMulL_l, oMul_t, oDiv_i, oMod_i, oLt_i, oLe_i, oLt_s, oLe_s, oGt_i, oGe_i, oEq_i, oNe_i, oEq_s, oNe_s, oIs_n, oIsNot_n, oIs_b, oIn_s, bLen_l, bLen_t, bLen_s, bInt_i, bStr_s, bTuple_l, bTuple_t, bList_l, bList_t, itemsOf_l, itemsOf_t, itemsOf_s, isTy, isNonB, bTupleA_l, bTupleA_t, bTupleA_s, bListA_l, bListA_t, bListA_s, bRev_l, bRev_t, bRev_s, mCount_s, sZip_e, sEnum_e, sComp2_e, sLstR_e, sTupR_e, tgTup2_e, sUnp_e, unpD_2, unpD_3, unpD_4, bAll_2, oIx_s, oIx_l, oIx_t, oSl_s, oSl_l, oSl_t, oNe_ln, oEq_ln, Option.bind_some, Option.bind_none, Option.map_some, Option.map_none, List.set_cons_zero, List.set_cons_succ, List.map_cons, List.map_nil, List.replicate_succ, List.replicate_zero, List.cons_append, List.nil_append, List.length_cons, List.length_nil, if_true, if_false, Bool.not_true, Bool.not_false, Bool.false_eq_true, reduceIte, decide_true, decide_false, Bool.true_and, Bool.false_and, Bool.and_true, Bool.and_false, Nat.reduceLeDiff, Nat.reduceAdd, Nat.zero_add, and_self, and_true, true_and, and_false, false_and]⟩)]
  simp -implicitDefEqProofs (disch := (first | omega | assumption | (simp only [List.length_append, List.length_map, rangeD_len, List.length_cons, List.length_nil, List.length_range, List.length_reverse]; omega))) only [sVar_0, sVar_1, sVar_2, sVar_3, sVar_4, sVar_5, sVar_6, sVar_7, sVar_8, sVar_9, sVar_10, sVar_11, sVar_12, sVar_13, sVar_14, sVar_15, sVar_16, sVar_17, sVar_18, sVar_19, sVar_20, sVar_21, sVar_22, sVar_23, sVar_24, sVar_25, sVar_26, sVar_27, sVar_28, sVar_29, sVar_30, sVar_31, sVar_32, sVar_33, sVar_34, sC_e, sDct_e, bSortedA_l, bSortedA_t, bSortedA_s, sOp_e, sU_e, sB_b, boolD_b, sAnd_e, sOr_e, sNot_e, sAndV_e, sOrV_e, sNotV_e, sIf_e, sNeg_e, negD_i, sCall_e, sNil_e, sCons_e, sTup_e, sLst_e, sIsi_e, sNoP_e, sPart_e, intD_i, sSl_e, sCup0_e, sCup1_e, sChain_e, sSkip_e, sSeq_e, thenO_nx, thenO_rt, thenO_bk, thenO_ct, sDrop_e, sRet_e, sRetN_e, sIte_e, sSet_e, sSets_e, setAll_nil, setAll_cons, sApp_e, sExt_e, sPut_e, sAug_e, sAugI_e, sPut0_e, sPut1_e, put0_i, put1_i, sFor_e, sItems_e, sRange1_e, range1_i, sRange2_e, sComp_e, tgN_e, wipeE_nil, wipeE_cons, sYes_e, runD_e, outR_rt, outR_nx, env0_t, env0_f, oAdd_i, oAdd_s, oAdd_l, oAdd_t, oAddL_l, oSub_i, oMul_i, oMul_s, oMul_l, oMulL_l, oMul_t, oDiv_i, oMod_i, oLt_i, oLe_i, oLt_s, oLe_s, oGt_i, oGe_i, oEq_i, oNe_i, oEq_s, oNe_s, oIs_n, oIsNot_n, oIs_b, oIn_s, bLen_l, bLen_t, bLen_s, bInt_i, bStr_s, bTuple_l, bTuple_t, bList_l, bList_t, itemsOf_l, itemsOf_t, itemsOf_s, isTy, isNonB, bTupleA_l, bTupleA_t, bTupleA_s, bListA_l, bListA_t, bListA_s, bRev_l, bRev_t, bRev_s, mCount_s, sZip_e, sEnum_e, sComp2_e, sLstR_e, sTupR_e, tgTup2_e, sUnp_e, unpD_2, unpD_3, unpD_4, bAll_2, oIx_s, oIx_l, oIx_t, oSl_s, oSl_l, oSl_t, oNe_ln, oEq_ln, Option.bind_some, Option.bind_none, Option.map_some, Option.map_none, List.set_cons_zero, List.set_cons_succ, List.map_cons, List.map_nil, List.replicate_succ, List.replicate_zero, List.cons_append, List.nil_append, List.length_cons, List.length_nil, if_true, if_false, Bool.not_true, Bool.not_false, Bool.false_eq_true, reduceIte, decide_true, decide_false, Bool.true_and, Bool.false_and, Bool.and_true, Bool.and_false, Nat.reduceLeDiff, Nat.reduceAdd, Nat.zero_add, and_self, and_true, true_and, and_false, false_and, List.length_map]
theorem lenSet_tup {R : List (List Nat)} (h0 : 1 ≤ R.length) (h1 : R.length ≤ 1000) : bLenSetA (.tuple (R.map ps)) = some (nD (uqW R)) := by
  have hi : intsOf (R.map ps) = none := by
    cases R with
    | nil => simp at h0
    | cons x r => rfl
  have hs : strsOf (R.map ps) = some (R.map fun l => (⟨l.toArray⟩ : Str)) := strsOf_map R fun l => l
  simp only [bLenSetA, hi, hs]
  show (if _ then _ else none) = _
  rw [if_pos (by rw [List.length_map]; exact h1)]
  rfl
theorem unlike_t {w : List Nat} {n : Nat} {c : Cup} (W : Word w) (n0 : 3 ≤ n) (n1 : n ≤ 24) : m_unlike_rounds [ps w, nD n] c = some (nD (uqW (RW w n w.length)), c) := by
  have h0 := W.lo
  have h1 := W.hi
  have hl := lenSet_tup (R := RW w n w.length) (by rw [RW_len]; omega) (by rw [RW_len]; omega)
  unfold m_unlike_rounds b_unlike_rounds
  simp -implicitDefEqProofs (disch := (first | omega | assumption | (simp only [List.length_append, List.length_map, rangeD_len, List.length_cons, List.length_nil, List.length_range, List.length_reverse]; omega))) only [sVar_0, sVar_1, sVar_2, sVar_3, sVar_4, sVar_5, sVar_6, sVar_7, sVar_8, sVar_9, sVar_10, sVar_11, sVar_12, sVar_13, sVar_14, sVar_15, sVar_16, sVar_17, sVar_18, sVar_19, sVar_20, sVar_21, sVar_22, sVar_23, sVar_24, sVar_25, sVar_26, sVar_27, sVar_28, sVar_29, sVar_30, sVar_31, sVar_32, sVar_33, sVar_34, sC_e, sDct_e, bSortedA_l, bSortedA_t, bSortedA_s, sOp_e, sU_e, sB_b, boolD_b, sAnd_e, sOr_e, sNot_e, sAndV_e, sOrV_e, sNotV_e, sIf_e, sNeg_e, negD_i, sCall_e, sNil_e, sCons_e, sTup_e, sLst_e, sIsi_e, sNoP_e, sPart_e, intD_i, sSl_e, sCup0_e, sCup1_e, sChain_e, sSkip_e, sSeq_e, thenO_nx, thenO_rt, thenO_bk, thenO_ct, sDrop_e, sRet_e, sRetN_e, sIte_e, sSet_e, sSets_e, setAll_nil, setAll_cons, sApp_e, sExt_e, sPut_e, sAug_e, sAugI_e, sPut0_e, sPut1_e, put0_i, put1_i, sFor_e, sItems_e, sRange1_e, range1_i, sRange2_e, sComp_e, tgN_e, wipeE_nil, wipeE_cons, sYes_e, runD_e, outR_rt, outR_nx, env0_t, env0_f, oAdd_i, oAdd_s, oAdd_l, oAdd_t, oAddL_l, oSub_i, oMul_i, oMul_s, oMul_l, oMulL_l, oMul_t, oDiv_i, oMod_i, oLt_i, oLe_i, oLt_s, oLe_s, oGt_i, oGe_i, oEq_i, oNe_i, oEq_s, oNe_s, oIs_n, oIsNot_n, oIs_b, oIn_s, bLen_l, bLen_t, bLen_s, bInt_i, bStr_s, bTuple_l, bTuple_t, bList_l, bList_t, itemsOf_l, itemsOf_t, itemsOf_s, isTy, isNonB, bTupleA_l, bTupleA_t, bTupleA_s, bListA_l, bListA_t, bListA_s, bRev_l, bRev_t, bRev_s, mCount_s, sZip_e, sEnum_e, sComp2_e, sLstR_e, sTupR_e, tgTup2_e, sUnp_e, unpD_2, unpD_3, unpD_4, bAll_2, oIx_s, oIx_l, oIx_t, oSl_s, oSl_l, oSl_t, oNe_ln, oEq_ln, Option.bind_some, Option.bind_none, Option.map_some, Option.map_none, List.set_cons_zero, List.set_cons_succ, List.map_cons, List.map_nil, List.replicate_succ, List.replicate_zero, List.cons_append, List.nil_append, List.length_cons, List.length_nil, if_true, if_false, Bool.not_true, Bool.not_false, Bool.false_eq_true, reduceIte, decide_true, decide_false, Bool.true_and, Bool.false_and, Bool.and_true, Bool.and_false, Nat.reduceLeDiff, Nat.reduceAdd, Nat.zero_add, and_self, and_true, true_and, and_false, false_and, need_word_w W, need_stakes_i n0 n1, rounds_in_t (w := w) (n := n) (h := w.length) h0 n1 (by omega), hl]
theorem loose_behind_t {w : List Nat} {n h : Nat} {c : Cup} (W : Word w) (n0 : 3 ≤ n) (n1 : n ≤ 24) (h0 : 1 ≤ h) (h1 : h ≤ 40) : m_loose_behind [ps w, nD n, nD h] c = some (.tuple ((lz w n h).map nD), c) := by
  have hen : enumD 0 ((List.range n).map fun t => ps (col w n h t)) = (List.range n).map fun t => .tuple [nD t, ps (col w n h t)] := enumD_range _
  have hle : ((List.range n).map fun t => PyData.tuple [nD t, ps (col w n h t)]).length ≤ 16777216 := by rw [List.length_map, List.length_range]; omega
  unfold m_loose_behind b_loose_behind
  simp -implicitDefEqProofs (disch := (first | omega | assumption | (simp only [List.length_append, List.length_map, rangeD_len, List.length_cons, List.length_nil, List.length_range, List.length_reverse]; omega))) only [sVar_0, sVar_1, sVar_2, sVar_3, sVar_4, sVar_5, sVar_6, sVar_7, sVar_8, sVar_9, sVar_10, sVar_11, sVar_12, sVar_13, sVar_14, sVar_15, sVar_16, sVar_17, sVar_18, sVar_19, sVar_20, sVar_21, sVar_22, sVar_23, sVar_24, sVar_25, sVar_26, sVar_27, sVar_28, sVar_29, sVar_30, sVar_31, sVar_32, sVar_33, sVar_34, sC_e, sDct_e, bSortedA_l, bSortedA_t, bSortedA_s, sOp_e, sU_e, sB_b, boolD_b, sAnd_e, sOr_e, sNot_e, sAndV_e, sOrV_e, sNotV_e, sIf_e, sNeg_e, negD_i, sCall_e, sNil_e, sCons_e, sTup_e, sLst_e, sIsi_e, sNoP_e, sPart_e, intD_i, sSl_e, sCup0_e, sCup1_e, sChain_e, sSkip_e, sSeq_e, thenO_nx, thenO_rt, thenO_bk, thenO_ct, sDrop_e, sRet_e, sRetN_e, sIte_e, sSet_e, sSets_e, setAll_nil, setAll_cons, sApp_e, sExt_e, sPut_e, sAug_e, sAugI_e, sPut0_e, sPut1_e, put0_i, put1_i, sFor_e, sItems_e, sRange1_e, range1_i, sRange2_e, sComp_e, tgN_e, wipeE_nil, wipeE_cons, sYes_e, runD_e, outR_rt, outR_nx, env0_t, env0_f, oAdd_i, oAdd_s, oAdd_l, oAdd_t, oAddL_l, oSub_i, oMul_i, oMul_s, oMul_l, oMulL_l, oMul_t, oDiv_i, oMod_i, oLt_i, oLe_i, oLt_s, oLe_s, oGt_i, oGe_i, oEq_i, oNe_i, oEq_s, oNe_s, oIs_n, oIsNot_n, oIs_b, oIn_s, bLen_l, bLen_t, bLen_s, bInt_i, bStr_s, bTuple_l, bTuple_t, bList_l, bList_t, itemsOf_l, itemsOf_t, itemsOf_s, isTy, isNonB, bTupleA_l, bTupleA_t, bTupleA_s, bListA_l, bListA_t, bListA_s, bRev_l, bRev_t, bRev_s, mCount_s, sZip_e, sEnum_e, sComp2_e, sLstR_e, sTupR_e, tgTup2_e, sUnp_e, unpD_2, unpD_3, unpD_4, bAll_2, oIx_s, oIx_l, oIx_t, oSl_s, oSl_l, oSl_t, oNe_ln, oEq_ln, Option.bind_some, Option.bind_none, Option.map_some, Option.map_none, List.set_cons_zero, List.set_cons_succ, List.map_cons, List.map_nil, List.replicate_succ, List.replicate_zero, List.cons_append, List.nil_append, List.length_cons, List.length_nil, if_true, if_false, Bool.not_true, Bool.not_false, Bool.false_eq_true, reduceIte, decide_true, decide_false, Bool.true_and, Bool.false_and, Bool.and_true, Bool.and_false, Nat.reduceLeDiff, Nat.reduceAdd, Nat.zero_add, and_self, and_true, true_and, and_false, false_and, need_word_w W, need_stakes_i n0 n1, need_rounds_i h0 h1, rounds_in_t (w := w) (n := n) (h := h) W.lo n1 h1, columns_in_t (w := w) (n := n) h0 h1 n1, hen, hle]
  rw [compD_filterA (h := fun t => PyData.tuple [nD t, ps (col w n h t)]) (g := nD) (p := fun t => !mx w n h t) (fun t _ => ⟨_, rfl, by simp -implicitDefEqProofs (disch := (first | omega | assumption | (simp only [List.length_append, List.length_map, rangeD_len, List.length_cons, List.length_nil, List.length_range, List.length_reverse]; omega))) only [sVar_0, sVar_1, sVar_2, sVar_3, sVar_4, sVar_5, sVar_6, sVar_7, sVar_8, sVar_9, sVar_10, sVar_11, sVar_12, sVar_13, sVar_14, sVar_15, sVar_16, sVar_17, sVar_18, sVar_19, sVar_20, sVar_21, sVar_22, sVar_23, sVar_24, sVar_25, sVar_26, sVar_27, sVar_28, sVar_29, sVar_30, sVar_31, sVar_32, sVar_33, sVar_34, sC_e, sDct_e, bSortedA_l, bSortedA_t, bSortedA_s, sOp_e, sU_e, sB_b, boolD_b, sAnd_e, sOr_e, sNot_e, sAndV_e, sOrV_e, sNotV_e, sIf_e, sNeg_e, negD_i, sCall_e, sNil_e, sCons_e, sTup_e, sLst_e, sIsi_e, sNoP_e, sPart_e, intD_i, sSl_e, sCup0_e, sCup1_e, sChain_e, sSkip_e, sSeq_e, thenO_nx, thenO_rt, thenO_bk, thenO_ct, sDrop_e, sRet_e, sRetN_e, sIte_e, sSet_e, sSets_e, setAll_nil, setAll_cons, sApp_e, sExt_e, sPut_e, sAug_e, sAugI_e, sPut0_e, sPut1_e, put0_i, put1_i, sFor_e, sItems_e, sRange1_e, range1_i, sRange2_e, sComp_e, tgN_e, wipeE_nil, wipeE_cons, sYes_e, runD_e, outR_rt, outR_nx, env0_t, env0_f, oAdd_i, oAdd_s, oAdd_l, oAdd_t, oAddL_l, oSub_i, oMul_i, oMul_s, oMul_l, oMulL_l, oMul_t, oDiv_i, oMod_i, oLt_i, oLe_i, oLt_s, oLe_s, oGt_i, oGe_i, oEq_i, oNe_i, oEq_s, oNe_s, oIs_n, oIsNot_n, oIs_b, oIn_s, bLen_l, bLen_t, bLen_s, bInt_i, bStr_s, bTuple_l, bTuple_t, bList_l, bList_t, itemsOf_l, itemsOf_t, itemsOf_s, isTy, isNonB, bTupleA_l, bTupleA_t, bTupleA_s, bListA_l, bListA_t, bListA_s, bRev_l, bRev_t, bRev_s, mCount_s, sZip_e, sEnum_e, sComp2_e, sLstR_e, sTupR_e, tgTup2_e, sUnp_e, unpD_2, unpD_3, unpD_4, bAll_2, oIx_s, oIx_l, oIx_t, oSl_s, oSl_l, oSl_t, oNe_ln, oEq_ln, Option.bind_some, Option.bind_none, Option.map_some, Option.map_none, List.set_cons_zero, List.set_cons_succ, List.map_cons, List.map_nil, List.replicate_succ, List.replicate_zero, List.cons_append, List.nil_append, List.length_cons, List.length_nil, if_true, if_false, Bool.not_true, Bool.not_false, Bool.false_eq_true, reduceIte, decide_true, decide_false, Bool.true_and, Bool.false_and, Bool.and_true, Bool.and_false, Nat.reduceLeDiff, Nat.reduceAdd, Nat.zero_add, and_self, and_true, true_and, and_false, false_and, is_mixed_t, mx], fun _ => by simp -implicitDefEqProofs (disch := (first | omega | assumption | (simp only [List.length_append, List.length_map, rangeD_len, List.length_cons, List.length_nil, List.length_range, List.length_reverse]; omega))) only [sVar_0, sVar_1, sVar_2, sVar_3, sVar_4, sVar_5, sVar_6, sVar_7, sVar_8, sVar_9, sVar_10, sVar_11, sVar_12, sVar_13, sVar_14, sVar_15, sVar_16, sVar_17, sVar_18, sVar_19, sVar_20, sVar_21, sVar_22, sVar_23, sVar_24, sVar_25, sVar_26, sVar_27, sVar_28, sVar_29, sVar_30, sVar_31, sVar_32, sVar_33, sVar_34, sC_e, sDct_e, bSortedA_l, bSortedA_t, bSortedA_s, sOp_e, sU_e, sB_b, boolD_b, sAnd_e, sOr_e, sNot_e, sAndV_e, sOrV_e, sNotV_e, sIf_e, sNeg_e, negD_i, sCall_e, sNil_e, sCons_e, sTup_e, sLst_e, sIsi_e, sNoP_e, sPart_e, intD_i, sSl_e, sCup0_e, sCup1_e, sChain_e, sSkip_e, sSeq_e, thenO_nx, thenO_rt, thenO_bk, thenO_ct, sDrop_e, sRet_e, sRetN_e, sIte_e, sSet_e, sSets_e, setAll_nil, setAll_cons, sApp_e, sExt_e, sPut_e, sAug_e, sAugI_e, sPut0_e, sPut1_e, put0_i, put1_i, sFor_e, sItems_e, sRange1_e, range1_i, sRange2_e, sComp_e, tgN_e, wipeE_nil, wipeE_cons, sYes_e, runD_e, outR_rt, outR_nx, env0_t, env0_f, oAdd_i, oAdd_s, oAdd_l, oAdd_t, oAddL_l, oSub_i, oMul_i, oMul_s, oMul_l, oMulL_l, oMul_t, oDiv_i, oMod_i, oLt_i, oLe_i, oLt_s, oLe_s, oGt_i, oGe_i, oEq_i, oNe_i, oEq_s, oNe_s, oIs_n, oIsNot_n, oIs_b, oIn_s, bLen_l, bLen_t, bLen_s, bInt_i, bStr_s, bTuple_l, bTuple_t, bList_l, bList_t, itemsOf_l, itemsOf_t, itemsOf_s, isTy, isNonB, bTupleA_l, bTupleA_t, bTupleA_s, bListA_l, bListA_t, bListA_s, bRev_l, bRev_t, bRev_s, mCount_s, sZip_e, sEnum_e, sComp2_e, sLstR_e, sTupR_e, tgTup2_e, sUnp_e, unpD_2, unpD_3, unpD_4, bAll_2, oIx_s, oIx_l, oIx_t, oSl_s, oSl_l, oSl_t, oNe_ln, oEq_ln, Option.bind_some, Option.bind_none, Option.map_some, Option.map_none, List.set_cons_zero, List.set_cons_succ, List.map_cons, List.map_nil, List.replicate_succ, List.replicate_zero, List.cons_append, List.nil_append, List.length_cons, List.length_nil, if_true, if_false, Bool.not_true, Bool.not_false, Bool.false_eq_true, reduceIte, decide_true, decide_false, Bool.true_and, Bool.false_and, Bool.and_true, Bool.and_false, Nat.reduceLeDiff, Nat.reduceAdd, Nat.zero_add, and_self, and_true, true_and, and_false, false_and]⟩)]
  simp -implicitDefEqProofs (disch := (first | omega | assumption | (simp only [List.length_append, List.length_map, rangeD_len, List.length_cons, List.length_nil, List.length_range, List.length_reverse]; omega))) only [sVar_0, sVar_1, sVar_2, sVar_3, sVar_4, sVar_5, sVar_6, sVar_7, sVar_8, sVar_9, sVar_10, sVar_11, sVar_12, sVar_13, sVar_14, sVar_15, sVar_16, sVar_17, sVar_18, sVar_19, sVar_20, sVar_21, sVar_22, sVar_23, sVar_24, sVar_25, sVar_26, sVar_27, sVar_28, sVar_29, sVar_30, sVar_31, sVar_32, sVar_33, sVar_34, sC_e, sDct_e, bSortedA_l, bSortedA_t, bSortedA_s, sOp_e, sU_e, sB_b, boolD_b, sAnd_e, sOr_e, sNot_e, sAndV_e, sOrV_e, sNotV_e, sIf_e, sNeg_e, negD_i, sCall_e, sNil_e, sCons_e, sTup_e, sLst_e, sIsi_e, sNoP_e, sPart_e, intD_i, sSl_e, sCup0_e, sCup1_e, sChain_e, sSkip_e, sSeq_e, thenO_nx, thenO_rt, thenO_bk, thenO_ct, sDrop_e, sRet_e, sRetN_e, sIte_e, sSet_e, sSets_e, setAll_nil, setAll_cons, sApp_e, sExt_e, sPut_e, sAug_e, sAugI_e, sPut0_e, sPut1_e, put0_i, put1_i, sFor_e, sItems_e, sRange1_e, range1_i, sRange2_e, sComp_e, tgN_e, wipeE_nil, wipeE_cons, sYes_e, runD_e, outR_rt, outR_nx, env0_t, env0_f, oAdd_i, oAdd_s, oAdd_l, oAdd_t, oAddL_l, oSub_i, oMul_i, oMul_s, oMul_l, oMulL_l, oMul_t, oDiv_i, oMod_i, oLt_i, oLe_i, oLt_s, oLe_s, oGt_i, oGe_i, oEq_i, oNe_i, oEq_s, oNe_s, oIs_n, oIsNot_n, oIs_b, oIn_s, bLen_l, bLen_t, bLen_s, bInt_i, bStr_s, bTuple_l, bTuple_t, bList_l, bList_t, itemsOf_l, itemsOf_t, itemsOf_s, isTy, isNonB, bTupleA_l, bTupleA_t, bTupleA_s, bListA_l, bListA_t, bListA_s, bRev_l, bRev_t, bRev_s, mCount_s, sZip_e, sEnum_e, sComp2_e, sLstR_e, sTupR_e, tgTup2_e, sUnp_e, unpD_2, unpD_3, unpD_4, bAll_2, oIx_s, oIx_l, oIx_t, oSl_s, oSl_l, oSl_t, oNe_ln, oEq_ln, Option.bind_some, Option.bind_none, Option.map_some, Option.map_none, List.set_cons_zero, List.set_cons_succ, List.map_cons, List.map_nil, List.replicate_succ, List.replicate_zero, List.cons_append, List.nil_append, List.length_cons, List.length_nil, if_true, if_false, Bool.not_true, Bool.not_false, Bool.false_eq_true, reduceIte, decide_true, decide_false, Bool.true_and, Bool.false_and, Bool.and_true, Bool.and_false, Nat.reduceLeDiff, Nat.reduceAdd, Nat.zero_add, and_self, and_true, true_and, and_false, false_and]
  rfl
/-! counts by loose stakes -/
def nL (n h : Nat) (w : List Nat) : Nat := (lz w n h).length
theorem nL_le (n h : Nat) (w : List Nat) : nL n h w ≤ n := by
  have := List.length_filter_le (fun t => !mx w n h t) (List.range n)
  rw [List.length_range] at this
  exact this
def cnt (n h : Nat) (A : List (List Nat)) : List D := (List.range (n + 1)).map fun m => nD ((A.map (nL n h)).count m)
theorem cnt_set {n h : Nat} (A : List (List Nat)) (w : List Nat) : (cnt n h A).set (nL n h w) (.int (((A.map (nL n h)).count (nL n h w) : Nat) + 1)) = cnt n h (A ++ [w]) := by
  refine List.ext_getElem? fun m => ?_
  have hl : (cnt n h A).length = n + 1 := by unfold cnt; rw [List.length_map, List.length_range]
  by_cases hm : m < n + 1
  · rw [List.getElem?_set]
    unfold cnt
    rw [List.getElem?_map, List.getElem?_map, List.getElem?_range hm, List.map_append]
    simp only [Option.map_some, List.count_append, List.map_cons, List.map_nil, List.count_cons, List.count_nil]
    by_cases e : nL n h w = m
    · rw [if_pos e, if_pos (by rw [List.length_map, List.length_range]; omega), ← e]
      simp
    · rw [if_neg e]
      have : (nL n h w == m) = false := by simpa using e
      rw [this]
      simp
  · rw [List.getElem?_eq_none (by rw [List.length_set, hl]; omega), List.getElem?_eq_none (by unfold cnt; rw [List.length_map, List.length_range]; omega)]
theorem count_loop {n h : Nat} {c : Cup} {x2 : Option D} (h0 : 1 ≤ h) (h1 : h ≤ 40) (n1 : n ≤ 24) : ∀ (r A : List (List Nat)) (y z : Option D), (∀ w ∈ r, Word w) → ∃ y' z', forD (tgN 4) b_loose_counts_1 (r.map ps) [some (nD n), some (nD h), x2, some (.list (cnt n h A)), y, z, none] c = some (.nx [some (nD n), some (nD h), x2, some (.list (cnt n h (A ++ r))), y', z', none] c)
  | [], A, y, z, _ => ⟨y, z, by rw [List.append_nil]; rfl⟩
  | w :: r, A, y, z, hw => by
    have W := hw w List.mem_cons_self
    obtain ⟨y', z', e⟩ := count_loop (c := c) (x2 := x2) h0 h1 n1 r (A ++ [w]) (some (ps w)) (some (.list ((List.range n).map fun t => ps (col w n h t)))) fun v hv => hw v (List.mem_cons_of_mem _ hv)
    refine ⟨y', z', ?_⟩
    rw [show A ++ w :: r = A ++ [w] ++ r by rw [List.append_assoc]; rfl]
    refine forD_step (Γ' := [some (nD n), some (nD h), x2, some (.list (cnt n h A)), some (ps w), z, none]) rfl ?_ e
    have hle : ((List.range n).map fun t => ps (col w n h t)).length ≤ 16777216 := by rw [List.length_map, List.length_range]; omega
    have hcomp : ∀ z2, compD (tgN 6) (sNot (sB (sCall m_is_mixed (sCons (sVar 6) sNil)))) (sVar 6) ((List.range n).map fun t => ps (col w n h t)) [some (nD n), some (nD h), x2, some (.list (cnt n h A)), some (ps w), z2, none] c = some ((lz w n h).map fun t => ps (col w n h t), c) := fun z2 => by
      rw [compD_filterA (h := fun t => ps (col w n h t)) (g := fun t => ps (col w n h t)) (p := fun t => !mx w n h t) (fun t _ => ⟨_, rfl, by simp -implicitDefEqProofs (disch := (first | omega | assumption | (simp only [List.length_append, List.length_map, rangeD_len, List.length_cons, List.length_nil, List.length_range, List.length_reverse]; omega))) only [sVar_0, sVar_1, sVar_2, sVar_3, sVar_4, sVar_5, sVar_6, sVar_7, sVar_8, sVar_9, sVar_10, sVar_11, sVar_12, sVar_13, sVar_14, sVar_15, sVar_16, sVar_17, sVar_18, sVar_19, sVar_20, sVar_21, sVar_22, sVar_23, sVar_24, sVar_25, sVar_26, sVar_27, sVar_28, sVar_29, sVar_30, sVar_31, sVar_32, sVar_33, sVar_34, sC_e, sDct_e, bSortedA_l, bSortedA_t, bSortedA_s, sOp_e, sU_e, sB_b, boolD_b, sAnd_e, sOr_e, sNot_e, sAndV_e, sOrV_e, sNotV_e, sIf_e, sNeg_e, negD_i, sCall_e, sNil_e, sCons_e, sTup_e, sLst_e, sIsi_e, sNoP_e, sPart_e, intD_i, sSl_e, sCup0_e, sCup1_e, sChain_e, sSkip_e, sSeq_e, thenO_nx, thenO_rt, thenO_bk, thenO_ct, sDrop_e, sRet_e, sRetN_e, sIte_e, sSet_e, sSets_e, setAll_nil, setAll_cons, sApp_e, sExt_e, sPut_e, sAug_e, sAugI_e, sPut0_e, sPut1_e, put0_i, put1_i, sFor_e, sItems_e, sRange1_e, range1_i, sRange2_e, sComp_e, tgN_e, wipeE_nil, wipeE_cons, sYes_e, runD_e, outR_rt, outR_nx, env0_t, env0_f, oAdd_i, oAdd_s, oAdd_l, oAdd_t, oAddL_l, oSub_i, oMul_i, oMul_s, oMul_l, oMulL_l, oMul_t, oDiv_i, oMod_i, oLt_i, oLe_i, oLt_s, oLe_s, oGt_i, oGe_i, oEq_i, oNe_i, oEq_s, oNe_s, oIs_n, oIsNot_n, oIs_b, oIn_s, bLen_l, bLen_t, bLen_s, bInt_i, bStr_s, bTuple_l, bTuple_t, bList_l, bList_t, itemsOf_l, itemsOf_t, itemsOf_s, isTy, isNonB, bTupleA_l, bTupleA_t, bTupleA_s, bListA_l, bListA_t, bListA_s, bRev_l, bRev_t, bRev_s, mCount_s, sZip_e, sEnum_e, sComp2_e, sLstR_e, sTupR_e, tgTup2_e, sUnp_e, unpD_2, unpD_3, unpD_4, bAll_2, oIx_s, oIx_l, oIx_t, oSl_s, oSl_l, oSl_t, oNe_ln, oEq_ln, Option.bind_some, Option.bind_none, Option.map_some, Option.map_none, List.set_cons_zero, List.set_cons_succ, List.map_cons, List.map_nil, List.replicate_succ, List.replicate_zero, List.cons_append, List.nil_append, List.length_cons, List.length_nil, if_true, if_false, Bool.not_true, Bool.not_false, Bool.false_eq_true, reduceIte, decide_true, decide_false, Bool.true_and, Bool.false_and, Bool.and_true, Bool.and_false, Nat.reduceLeDiff, Nat.reduceAdd, Nat.zero_add, and_self, and_true, true_and, and_false, false_and, is_mixed_t, mx], fun _ => by simp -implicitDefEqProofs (disch := (first | omega | assumption | (simp only [List.length_append, List.length_map, rangeD_len, List.length_cons, List.length_nil, List.length_range, List.length_reverse]; omega))) only [sVar_0, sVar_1, sVar_2, sVar_3, sVar_4, sVar_5, sVar_6, sVar_7, sVar_8, sVar_9, sVar_10, sVar_11, sVar_12, sVar_13, sVar_14, sVar_15, sVar_16, sVar_17, sVar_18, sVar_19, sVar_20, sVar_21, sVar_22, sVar_23, sVar_24, sVar_25, sVar_26, sVar_27, sVar_28, sVar_29, sVar_30, sVar_31, sVar_32, sVar_33, sVar_34, sC_e, sDct_e, bSortedA_l, bSortedA_t, bSortedA_s, sOp_e, sU_e, sB_b, boolD_b, sAnd_e, sOr_e, sNot_e, sAndV_e, sOrV_e, sNotV_e, sIf_e, sNeg_e, negD_i, sCall_e, sNil_e, sCons_e, sTup_e, sLst_e, sIsi_e, sNoP_e, sPart_e, intD_i, sSl_e, sCup0_e, sCup1_e, sChain_e, sSkip_e, sSeq_e, thenO_nx, thenO_rt, thenO_bk, thenO_ct, sDrop_e, sRet_e, sRetN_e, sIte_e, sSet_e, sSets_e, setAll_nil, setAll_cons, sApp_e, sExt_e, sPut_e, sAug_e, sAugI_e, sPut0_e, sPut1_e, put0_i, put1_i, sFor_e, sItems_e, sRange1_e, range1_i, sRange2_e, sComp_e, tgN_e, wipeE_nil, wipeE_cons, sYes_e, runD_e, outR_rt, outR_nx, env0_t, env0_f, oAdd_i, oAdd_s, oAdd_l, oAdd_t, oAddL_l, oSub_i, oMul_i, oMul_s, oMul_l, oMulL_l, oMul_t, oDiv_i, oMod_i, oLt_i, oLe_i, oLt_s, oLe_s, oGt_i, oGe_i, oEq_i, oNe_i, oEq_s, oNe_s, oIs_n, oIsNot_n, oIs_b, oIn_s, bLen_l, bLen_t, bLen_s, bInt_i, bStr_s, bTuple_l, bTuple_t, bList_l, bList_t, itemsOf_l, itemsOf_t, itemsOf_s, isTy, isNonB, bTupleA_l, bTupleA_t, bTupleA_s, bListA_l, bListA_t, bListA_s, bRev_l, bRev_t, bRev_s, mCount_s, sZip_e, sEnum_e, sComp2_e, sLstR_e, sTupR_e, tgTup2_e, sUnp_e, unpD_2, unpD_3, unpD_4, bAll_2, oIx_s, oIx_l, oIx_t, oSl_s, oSl_l, oSl_t, oNe_ln, oEq_ln, Option.bind_some, Option.bind_none, Option.map_some, Option.map_none, List.set_cons_zero, List.set_cons_succ, List.map_cons, List.map_nil, List.replicate_succ, List.replicate_zero, List.cons_append, List.nil_append, List.length_cons, List.length_nil, if_true, if_false, Bool.not_true, Bool.not_false, Bool.false_eq_true, reduceIte, decide_true, decide_false, Bool.true_and, Bool.false_and, Bool.and_true, Bool.and_false, Nat.reduceLeDiff, Nat.reduceAdd, Nat.zero_add, and_self, and_true, true_and, and_false, false_and]⟩)]
      rfl
    have hl : (cnt n h A).length = n + 1 := by unfold cnt; rw [List.length_map, List.length_range]
    have hlen : ((lz w n h).map fun t => ps (col w n h t)).length = nL n h w := by rw [List.length_map]; rfl
    have hnl := nL_le n h w
    have hix : ixN (n + 1) ((nL n h w : Nat) : Int) = some (nL n h w) := by
      unfold ixN
      rw [if_pos (by omega), if_pos (by omega)]
      rfl
    have hat : atI (cnt n h A) ((nL n h w : Nat) : Int) = some (nD ((A.map (nL n h)).count (nL n h w))) := by
      unfold cnt
      exact range_getD (f := fun m => nD ((A.map (nL n h)).count m)) (by omega)
    have haug : ∀ z2 : Option D, augI 3 [some (nD n), some (nD h), x2, some (.list (cnt n h A)), some (ps w), z2, none] (nD (nL n h w)) (.int 1) c = some (.nx [some (nD n), some (nD h), x2, some (.list (cnt n h (A ++ [w]))), some (ps w), z2, none] c) := fun z2 => by
      show (ixN (cnt n h A).length _).bind _ = _
      rw [hl, hix]
      show (match atI (cnt n h A) _ with | some (.int a) => _ | _ => _) = _
      rw [hat]
      show some (Out.nx (List.set _ 3 (some (.list ((cnt n h A).set (nL n h w) (.int (((A.map (nL n h)).count (nL n h w) : Nat) + 1)))))) c) = _
      rw [cnt_set]
      rfl
    simp -implicitDefEqProofs (disch := (first | omega | assumption | (simp only [List.length_append, List.length_map, rangeD_len, List.length_cons, List.length_nil, List.length_range, List.length_reverse]; omega))) only [sVar_0, sVar_1, sVar_2, sVar_3, sVar_4, sVar_5, sVar_6, sVar_7, sVar_8, sVar_9, sVar_10, sVar_11, sVar_12, sVar_13, sVar_14, sVar_15, sVar_16, sVar_17, sVar_18, sVar_19, sVar_20, sVar_21, sVar_22, sVar_23, sVar_24, sVar_25, sVar_26, sVar_27, sVar_28, sVar_29, sVar_30, sVar_31, sVar_32, sVar_33, sVar_34, sC_e, sDct_e, bSortedA_l, bSortedA_t, bSortedA_s, sOp_e, sU_e, sB_b, boolD_b, sAnd_e, sOr_e, sNot_e, sAndV_e, sOrV_e, sNotV_e, sIf_e, sNeg_e, negD_i, sCall_e, sNil_e, sCons_e, sTup_e, sLst_e, sIsi_e, sNoP_e, sPart_e, intD_i, sSl_e, sCup0_e, sCup1_e, sChain_e, sSkip_e, sSeq_e, thenO_nx, thenO_rt, thenO_bk, thenO_ct, sDrop_e, sRet_e, sRetN_e, sIte_e, sSet_e, sSets_e, setAll_nil, setAll_cons, sApp_e, sExt_e, sPut_e, sAug_e, sAugI_e, sPut0_e, sPut1_e, put0_i, put1_i, sFor_e, sItems_e, sRange1_e, range1_i, sRange2_e, sComp_e, tgN_e, wipeE_nil, wipeE_cons, sYes_e, runD_e, outR_rt, outR_nx, env0_t, env0_f, oAdd_i, oAdd_s, oAdd_l, oAdd_t, oAddL_l, oSub_i, oMul_i, oMul_s, oMul_l, oMulL_l, oMul_t, oDiv_i, oMod_i, oLt_i, oLe_i, oLt_s, oLe_s, oGt_i, oGe_i, oEq_i, oNe_i, oEq_s, oNe_s, oIs_n, oIsNot_n, oIs_b, oIn_s, bLen_l, bLen_t, bLen_s, bInt_i, bStr_s, bTuple_l, bTuple_t, bList_l, bList_t, itemsOf_l, itemsOf_t, itemsOf_s, isTy, isNonB, bTupleA_l, bTupleA_t, bTupleA_s, bListA_l, bListA_t, bListA_s, bRev_l, bRev_t, bRev_s, mCount_s, sZip_e, sEnum_e, sComp2_e, sLstR_e, sTupR_e, tgTup2_e, sUnp_e, unpD_2, unpD_3, unpD_4, bAll_2, oIx_s, oIx_l, oIx_t, oSl_s, oSl_l, oSl_t, oNe_ln, oEq_ln, Option.bind_some, Option.bind_none, Option.map_some, Option.map_none, List.set_cons_zero, List.set_cons_succ, List.map_cons, List.map_nil, List.replicate_succ, List.replicate_zero, List.cons_append, List.nil_append, List.length_cons, List.length_nil, if_true, if_false, Bool.not_true, Bool.not_false, Bool.false_eq_true, reduceIte, decide_true, decide_false, Bool.true_and, Bool.false_and, Bool.and_true, Bool.and_false, Nat.reduceLeDiff, Nat.reduceAdd, Nat.zero_add, and_self, and_true, true_and, and_false, false_and, rounds_in_t (w := w) (n := n) (h := h) W.lo n1 h1, columns_in_t (w := w) (n := n) h0 h1 n1, hle, hcomp, hlen, haug]
theorem loose_counts_t {n h k : Nat} {c : Cup} (n0 : 3 ≤ n) (n1 : n ≤ 24) (h0 : 1 ≤ h) (h1 : h ≤ 40) (k0 : 1 ≤ k) (k1 : k ≤ 8) : m_loose_counts [nD n, nD h, nD k] c = some (.tuple (cnt n h (lw k)), c) := by
  obtain ⟨y', z', e⟩ := count_loop (n := n) (c := c) (x2 := some (nD k)) h0 h1 n1 (lw k) [] none none fun w hw => lw_word k0 k1 hw
  rw [List.nil_append] at e
  have hm : oMulL (.list [.int 0]) (.int ((n : Int) + 1)) = some (.list (cnt n h [])) := by
    rw [oMulL_l ⟨by rw [List.length_singleton]; omega, by omega, by omega⟩, rep_flat]
    unfold cnt
    rw [show ((n : Int) + 1).toNat = n + 1 by omega]
    refine congrArg (fun x => some (PyData.list x)) ?_
    rw [show ((List.range (n + 1)).map fun m => nD ((([] : List (List Nat)).map (nL n h)).count m)) = (List.range (n + 1)).map fun _ => nD 0 from rfl, List.map_const', List.length_range]
    rfl
  unfold m_loose_counts b_loose_counts
  simp -implicitDefEqProofs (disch := (first | omega | assumption | (simp only [List.length_append, List.length_map, rangeD_len, List.length_cons, List.length_nil, List.length_range, List.length_reverse]; omega))) only [sVar_0, sVar_1, sVar_2, sVar_3, sVar_4, sVar_5, sVar_6, sVar_7, sVar_8, sVar_9, sVar_10, sVar_11, sVar_12, sVar_13, sVar_14, sVar_15, sVar_16, sVar_17, sVar_18, sVar_19, sVar_20, sVar_21, sVar_22, sVar_23, sVar_24, sVar_25, sVar_26, sVar_27, sVar_28, sVar_29, sVar_30, sVar_31, sVar_32, sVar_33, sVar_34, sC_e, sDct_e, bSortedA_l, bSortedA_t, bSortedA_s, sOp_e, sU_e, sB_b, boolD_b, sAnd_e, sOr_e, sNot_e, sAndV_e, sOrV_e, sNotV_e, sIf_e, sNeg_e, negD_i, sCall_e, sNil_e, sCons_e, sTup_e, sLst_e, sIsi_e, sNoP_e, sPart_e, intD_i, sSl_e, sCup0_e, sCup1_e, sChain_e, sSkip_e, sSeq_e, thenO_nx, thenO_rt, thenO_bk, thenO_ct, sDrop_e, sRet_e, sRetN_e, sIte_e, sSet_e, sSets_e, setAll_nil, setAll_cons, sApp_e, sExt_e, sPut_e, sAug_e, sAugI_e, sPut0_e, sPut1_e, put0_i, put1_i, sFor_e, sItems_e, sRange1_e, range1_i, sRange2_e, sComp_e, tgN_e, wipeE_nil, wipeE_cons, sYes_e, runD_e, outR_rt, outR_nx, env0_t, env0_f, oAdd_i, oAdd_s, oAdd_l, oAdd_t, oAddL_l, oSub_i, oMul_i, oMul_s, oMul_l, oMulL_l, oMul_t, oDiv_i, oMod_i, oLt_i, oLe_i, oLt_s, oLe_s, oGt_i, oGe_i, oEq_i, oNe_i, oEq_s, oNe_s, oIs_n, oIsNot_n, oIs_b, oIn_s, bLen_l, bLen_t, bLen_s, bInt_i, bStr_s, bTuple_l, bTuple_t, bList_l, bList_t, itemsOf_l, itemsOf_t, itemsOf_s, isTy, isNonB, bTupleA_l, bTupleA_t, bTupleA_s, bListA_l, bListA_t, bListA_s, bRev_l, bRev_t, bRev_s, mCount_s, sZip_e, sEnum_e, sComp2_e, sLstR_e, sTupR_e, tgTup2_e, sUnp_e, unpD_2, unpD_3, unpD_4, bAll_2, oIx_s, oIx_l, oIx_t, oSl_s, oSl_l, oSl_t, oNe_ln, oEq_ln, Option.bind_some, Option.bind_none, Option.map_some, Option.map_none, List.set_cons_zero, List.set_cons_succ, List.map_cons, List.map_nil, List.replicate_succ, List.replicate_zero, List.cons_append, List.nil_append, List.length_cons, List.length_nil, if_true, if_false, Bool.not_true, Bool.not_false, Bool.false_eq_true, reduceIte, decide_true, decide_false, Bool.true_and, Bool.false_and, Bool.and_true, Bool.and_false, Nat.reduceLeDiff, Nat.reduceAdd, Nat.zero_add, and_self, and_true, true_and, and_false, false_and, need_stakes_i n0 n1, need_rounds_i h0 h1, need_length_i k0 k1, ↓hm, words_in_t k1, e]
end Wk
set_option Elab.async false
set_option linter.all false
set_option maxRecDepth 3000
set_option maxHeartbeats 1000000
namespace Wk
open PySem PySem.Spec PyProof.Rows L2
theorem range_cut (m k : Nat) (h : k ≤ m) : List.range m = List.range k ++ (List.range (m - k)).map (k + ·) := by
  rw [← List.range_add, Nat.add_sub_cancel' h]
theorem take_rows {α : Type} (f : Nat → α) (m k : Nat) (h : k ≤ m) : ((List.range m).map f).take k = (List.range k).map f := by
  rw [range_cut m k h, List.map_append, List.take_left' (by rw [List.length_map, List.length_range])]
theorem went_t {w : List Nat} {n h : Nat} {c : Cup} (W : Word w) (n1 : n ≤ 24) (h1 : h ≤ 40) : m__law_went [ps w, nD n, nD h] c = some (wD (RW w n h), c) := by
  have := law_went_w (k := h) (c := c) W n1 h1
  rw [rowsOf_rowN] at this
  exact this
theorem loose_t {w : List Nat} {n h : Nat} {c : Cup} (W : Word w) (n1 : n ≤ 24) (h0 : 1 ≤ h) (h1 : h ≤ 40) : m__law_loose [wD (RW w n h)] c = some (.list ((lz w n h).map nD), c) := by
  rw [law_loose_t (R := RW w n h) (m := n) (by rw [RW_len]; omega) (by rw [RW_len]; omega) (by omega) RW_row, lo_lz W h0]
theorem headN {L : List Nat} {c : Cup} : (if (!(L.map nD).isEmpty) = true then Option.map (fun r => (r, c)) (atI (L.map nD) 0) else some (PyData.none, c)) = some (optN L.head?, c) := by
  cases L with
  | nil => rfl
  | cons x t =>
    rw [if_pos (by rfl), atI_lt (by omega) (by rw [List.length_map, List.length_cons]; omega)]
    rfl
theorem head_5 {L : List Nat} {a0 a1 a2 a3 a4 : Option D} {r : Ev} {c : Cup} : sIf (sB (sOp oNe (sVar 5) (sLst sNil))) (sOp oIx (sVar 5) (sC (.int 0))) (sC .none) (a0 :: a1 :: a2 :: a3 :: a4 :: some (.list (L.map nD)) :: r) c = some (optN L.head?, c) := by
  simp -implicitDefEqProofs (disch := (first | omega | assumption | (simp only [List.length_append, List.length_map, rangeD_len, List.length_cons, List.length_nil, List.length_range, List.length_reverse]; omega))) only [sVar_0, sVar_1, sVar_2, sVar_3, sVar_4, sVar_5, sVar_6, sVar_7, sVar_8, sVar_9, sVar_10, sVar_11, sVar_12, sVar_13, sVar_14, sVar_15, sVar_16, sVar_17, sVar_18, sVar_19, sVar_20, sVar_21, sVar_22, sVar_23, sVar_24, sVar_25, sVar_26, sVar_27, sVar_28, sVar_29, sVar_30, sVar_31, sVar_32, sVar_33, sVar_34, sC_e, sDct_e, bSortedA_l, bSortedA_t, bSortedA_s, sOp_e, sU_e, sB_b, boolD_b, sAnd_e, sOr_e, sNot_e, sAndV_e, sOrV_e, sNotV_e, sIf_e, sNeg_e, negD_i, sCall_e, sNil_e, sCons_e, sTup_e, sLst_e, sIsi_e, sNoP_e, sPart_e, intD_i, sSl_e, sCup0_e, sCup1_e, sChain_e, sSkip_e, sSeq_e, thenO_nx, thenO_rt, thenO_bk, thenO_ct, sDrop_e, sRet_e, sRetN_e, sIte_e, sSet_e, sSets_e, setAll_nil, setAll_cons, sApp_e, sExt_e, sPut_e, sAug_e, sAugI_e, sPut0_e, sPut1_e, put0_i, put1_i, sFor_e, sItems_e, sRange1_e, range1_i, sRange2_e, sComp_e, tgN_e, wipeE_nil, wipeE_cons, sYes_e, runD_e, outR_rt, outR_nx, env0_t, env0_f, oAdd_i, oAdd_s, oAdd_l, oAdd_t, oAddL_l, oSub_i, oMul_i, oMul_s, oMul_l, oMulL_l, oMul_t, oDiv_i, oMod_i, oLt_i, oLe_i, oLt_s, oLe_s, oGt_i, oGe_i, oEq_i, oNe_i, oEq_s, oNe_s, oIs_n, oIsNot_n, oIs_b, oIn_s, bLen_l, bLen_t, bLen_s, bInt_i, bStr_s, bTuple_l, bTuple_t, bList_l, bList_t, itemsOf_l, itemsOf_t, itemsOf_s, isTy, isNonB, bTupleA_l, bTupleA_t, bTupleA_s, bListA_l, bListA_t, bListA_s, bRev_l, bRev_t, bRev_s, mCount_s, sZip_e, sEnum_e, sComp2_e, sLstR_e, sTupR_e, tgTup2_e, sUnp_e, unpD_2, unpD_3, unpD_4, bAll_2, oIx_s, oIx_l, oIx_t, oSl_s, oSl_l, oSl_t, oNe_ln, oEq_ln, Option.bind_some, Option.bind_none, Option.map_some, Option.map_none, List.set_cons_zero, List.set_cons_succ, List.map_cons, List.map_nil, List.replicate_succ, List.replicate_zero, List.cons_append, List.nil_append, List.length_cons, List.length_nil, if_true, if_false, Bool.not_true, Bool.not_false, Bool.false_eq_true, reduceIte, decide_true, decide_false, Bool.true_and, Bool.false_and, Bool.and_true, Bool.and_false, Nat.reduceLeDiff, Nat.reduceAdd, Nat.zero_add, and_self, and_true, true_and, and_false, false_and]
  exact headN
theorem mLCount_n {l : List Nat} {m : Nat} : mLCount (.list (l.map nD)) (nD m) = some (nD (l.count m)) := by
  show (if min (PyData.depthAll (l.map nD)) (PyData.depth (nD m)) ≤ 64 then some (PyData.int ((List.countP (fun z => PyData.eqv z (nD m)) (l.map nD) : Nat) : Int)) else none) = _
  rw [if_pos (by rw [depthAll_nat]; omega), List.countP_map, List.count_eq_countP]
  refine congrArg (fun x : Nat => some (nD x)) (List.countP_congr fun x _ => ?_)
  show PyData.eqv (nD x) (nD m) = true ↔ _
  rw [eqv_i, decide_eq_true_iff, beq_iff_eq]
  omega
theorem count_zero {n h k : Nat} : ((lw k).map (nL n h)).count 0 = (hold n h k).length := by
  unfold hold
  rw [List.count_eq_countP, List.countP_map, ← List.countP_eq_length_filter]
  refine List.countP_congr fun w _ => ?_
  simp only [Function.comp, ho, nL]
  cases lz w n h <;> simp
theorem due_loop {n h : Nat} {c : Cup} {x0 x3 x4 x5 x6 x7 x8 x9 x10 x14 : Option D} (n1 : n ≤ 24) (h0 : 1 ≤ h) (h1 : h ≤ 40) : ∀ (ks : List Nat) (d : Option (List Nat)) (y z : Option D), (∀ k ∈ ks, 1 ≤ k ∧ k ≤ 8) → ∃ y' z', forD (tgN 12) b__law_right_1 (ks.map nD) [x0, some (nD n), some (nD h), x3, x4, x5, x6, x7, x8, x9, x10, some (optD d), y, z, x14, none] c = some (.nx [x0, some (nD n), some (nD h), x3, x4, x5, x6, x7, x8, x9, x10, some (optD (d.or (fh n h ks))), y', z', x14, none] c)
  | [], d, y, z, _ => ⟨y, z, by
    cases d <;> rfl⟩
  | k :: r, d, y, z, hk => by
    have k0 := hk k List.mem_cons_self
    have hwd := law_words_t (n := k) (c := c) k0.2
    have hle : ((lw k).map ps).length ≤ 16777216 := by have := lw_le k0.2; rw [List.length_map]; omega
    rw [List.map_cons]
    cases d with
    | some v =>
      obtain ⟨y', z', e⟩ := due_loop (c := c) (x0 := x0) (x3 := x3) (x4 := x4) (x5 := x5) (x6 := x6) (x7 := x7) (x8 := x8) (x9 := x9) (x10 := x10) (x14 := x14) n1 h0 h1 r (some v) (some (nD k)) (some (.list [])) fun j hj => hk j (List.mem_cons_of_mem _ hj)
      refine ⟨y', z', forD_step rfl ?_ e⟩
      simp -implicitDefEqProofs (disch := (first | omega | assumption | (simp only [List.length_append, List.length_map, rangeD_len, List.length_cons, List.length_nil, List.length_range, List.length_reverse]; omega))) only [sVar_0, sVar_1, sVar_2, sVar_3, sVar_4, sVar_5, sVar_6, sVar_7, sVar_8, sVar_9, sVar_10, sVar_11, sVar_12, sVar_13, sVar_14, sVar_15, sVar_16, sVar_17, sVar_18, sVar_19, sVar_20, sVar_21, sVar_22, sVar_23, sVar_24, sVar_25, sVar_26, sVar_27, sVar_28, sVar_29, sVar_30, sVar_31, sVar_32, sVar_33, sVar_34, sC_e, sDct_e, bSortedA_l, bSortedA_t, bSortedA_s, sOp_e, sU_e, sB_b, boolD_b, sAnd_e, sOr_e, sNot_e, sAndV_e, sOrV_e, sNotV_e, sIf_e, sNeg_e, negD_i, sCall_e, sNil_e, sCons_e, sTup_e, sLst_e, sIsi_e, sNoP_e, sPart_e, intD_i, sSl_e, sCup0_e, sCup1_e, sChain_e, sSkip_e, sSeq_e, thenO_nx, thenO_rt, thenO_bk, thenO_ct, sDrop_e, sRet_e, sRetN_e, sIte_e, sSet_e, sSets_e, setAll_nil, setAll_cons, sApp_e, sExt_e, sPut_e, sAug_e, sAugI_e, sPut0_e, sPut1_e, put0_i, put1_i, sFor_e, sItems_e, sRange1_e, range1_i, sRange2_e, sComp_e, tgN_e, wipeE_nil, wipeE_cons, sYes_e, runD_e, outR_rt, outR_nx, env0_t, env0_f, oAdd_i, oAdd_s, oAdd_l, oAdd_t, oAddL_l, oSub_i, oMul_i, oMul_s, oMul_l, oMulL_l, oMul_t, oDiv_i, oMod_i, oLt_i, oLe_i, oLt_s, oLe_s, oGt_i, oGe_i, oEq_i, oNe_i, oEq_s, oNe_s, oIs_n, oIsNot_n, oIs_b, oIn_s, bLen_l, bLen_t, bLen_s, bInt_i, bStr_s, bTuple_l, bTuple_t, bList_l, bList_t, itemsOf_l, itemsOf_t, itemsOf_s, isTy, isNonB, bTupleA_l, bTupleA_t, bTupleA_s, bListA_l, bListA_t, bListA_s, bRev_l, bRev_t, bRev_s, mCount_s, sZip_e, sEnum_e, sComp2_e, sLstR_e, sTupR_e, tgTup2_e, sUnp_e, unpD_2, unpD_3, unpD_4, bAll_2, oIx_s, oIx_l, oIx_t, oSl_s, oSl_l, oSl_t, oNe_ln, oEq_ln, Option.bind_some, Option.bind_none, Option.map_some, Option.map_none, List.set_cons_zero, List.set_cons_succ, List.map_cons, List.map_nil, List.replicate_succ, List.replicate_zero, List.cons_append, List.nil_append, List.length_cons, List.length_nil, if_true, if_false, Bool.not_true, Bool.not_false, Bool.false_eq_true, reduceIte, decide_true, decide_false, Bool.true_and, Bool.false_and, Bool.and_true, Bool.and_false, Nat.reduceLeDiff, Nat.reduceAdd, Nat.zero_add, and_self, and_true, true_and, and_false, false_and, optD, List.isEmpty_nil]
    | none =>
      have hcomp : ∀ z2, compD (tgN 15) (sB (sOp oEq (sCall m__law_loose (sCons (sCall m__law_went (sCons (sVar 15) (sCons (sVar 1) (sCons (sVar 2) sNil)))) sNil)) (sLst sNil))) (sVar 15) ((lw k).map ps) [x0, some (nD n), some (nD h), x3, x4, x5, x6, x7, x8, x9, x10, some .none, some (nD k), z2, x14, none] c = some ((hold n h k).map ps, c) := fun z2 => by
        rw [compD_filterA (h := ps) (g := ps) (p := fun w => ho w n h) (fun w hw => by
          have W := lw_word k0.1 k0.2 hw
          exact ⟨_, rfl, by simp -implicitDefEqProofs (disch := (first | omega | assumption | (simp only [List.length_append, List.length_map, rangeD_len, List.length_cons, List.length_nil, List.length_range, List.length_reverse]; omega))) only [sVar_0, sVar_1, sVar_2, sVar_3, sVar_4, sVar_5, sVar_6, sVar_7, sVar_8, sVar_9, sVar_10, sVar_11, sVar_12, sVar_13, sVar_14, sVar_15, sVar_16, sVar_17, sVar_18, sVar_19, sVar_20, sVar_21, sVar_22, sVar_23, sVar_24, sVar_25, sVar_26, sVar_27, sVar_28, sVar_29, sVar_30, sVar_31, sVar_32, sVar_33, sVar_34, sC_e, sDct_e, bSortedA_l, bSortedA_t, bSortedA_s, sOp_e, sU_e, sB_b, boolD_b, sAnd_e, sOr_e, sNot_e, sAndV_e, sOrV_e, sNotV_e, sIf_e, sNeg_e, negD_i, sCall_e, sNil_e, sCons_e, sTup_e, sLst_e, sIsi_e, sNoP_e, sPart_e, intD_i, sSl_e, sCup0_e, sCup1_e, sChain_e, sSkip_e, sSeq_e, thenO_nx, thenO_rt, thenO_bk, thenO_ct, sDrop_e, sRet_e, sRetN_e, sIte_e, sSet_e, sSets_e, setAll_nil, setAll_cons, sApp_e, sExt_e, sPut_e, sAug_e, sAugI_e, sPut0_e, sPut1_e, put0_i, put1_i, sFor_e, sItems_e, sRange1_e, range1_i, sRange2_e, sComp_e, tgN_e, wipeE_nil, wipeE_cons, sYes_e, runD_e, outR_rt, outR_nx, env0_t, env0_f, oAdd_i, oAdd_s, oAdd_l, oAdd_t, oAddL_l, oSub_i, oMul_i, oMul_s, oMul_l, oMulL_l, oMul_t, oDiv_i, oMod_i, oLt_i, oLe_i, oLt_s, oLe_s, oGt_i, oGe_i, oEq_i, oNe_i, oEq_s, oNe_s, oIs_n, oIsNot_n, oIs_b, oIn_s, bLen_l, bLen_t, bLen_s, bInt_i, bStr_s, bTuple_l, bTuple_t, bList_l, bList_t, itemsOf_l, itemsOf_t, itemsOf_s, isTy, isNonB, bTupleA_l, bTupleA_t, bTupleA_s, bListA_l, bListA_t, bListA_s, bRev_l, bRev_t, bRev_s, mCount_s, sZip_e, sEnum_e, sComp2_e, sLstR_e, sTupR_e, tgTup2_e, sUnp_e, unpD_2, unpD_3, unpD_4, bAll_2, oIx_s, oIx_l, oIx_t, oSl_s, oSl_l, oSl_t, oNe_ln, oEq_ln, Option.bind_some, Option.bind_none, Option.map_some, Option.map_none, List.set_cons_zero, List.set_cons_succ, List.map_cons, List.map_nil, List.replicate_succ, List.replicate_zero, List.cons_append, List.nil_append, List.length_cons, List.length_nil, if_true, if_false, Bool.not_true, Bool.not_false, Bool.false_eq_true, reduceIte, decide_true, decide_false, Bool.true_and, Bool.false_and, Bool.and_true, Bool.and_false, Nat.reduceLeDiff, Nat.reduceAdd, Nat.zero_add, and_self, and_true, true_and, and_false, false_and, went_t W n1 h1, loose_t W n1 h0 h1, map_isEmpty, ho], fun _ => by simp -implicitDefEqProofs (disch := (first | omega | assumption | (simp only [List.length_append, List.length_map, rangeD_len, List.length_cons, List.length_nil, List.length_range, List.length_reverse]; omega))) only [sVar_0, sVar_1, sVar_2, sVar_3, sVar_4, sVar_5, sVar_6, sVar_7, sVar_8, sVar_9, sVar_10, sVar_11, sVar_12, sVar_13, sVar_14, sVar_15, sVar_16, sVar_17, sVar_18, sVar_19, sVar_20, sVar_21, sVar_22, sVar_23, sVar_24, sVar_25, sVar_26, sVar_27, sVar_28, sVar_29, sVar_30, sVar_31, sVar_32, sVar_33, sVar_34, sC_e, sDct_e, bSortedA_l, bSortedA_t, bSortedA_s, sOp_e, sU_e, sB_b, boolD_b, sAnd_e, sOr_e, sNot_e, sAndV_e, sOrV_e, sNotV_e, sIf_e, sNeg_e, negD_i, sCall_e, sNil_e, sCons_e, sTup_e, sLst_e, sIsi_e, sNoP_e, sPart_e, intD_i, sSl_e, sCup0_e, sCup1_e, sChain_e, sSkip_e, sSeq_e, thenO_nx, thenO_rt, thenO_bk, thenO_ct, sDrop_e, sRet_e, sRetN_e, sIte_e, sSet_e, sSets_e, setAll_nil, setAll_cons, sApp_e, sExt_e, sPut_e, sAug_e, sAugI_e, sPut0_e, sPut1_e, put0_i, put1_i, sFor_e, sItems_e, sRange1_e, range1_i, sRange2_e, sComp_e, tgN_e, wipeE_nil, wipeE_cons, sYes_e, runD_e, outR_rt, outR_nx, env0_t, env0_f, oAdd_i, oAdd_s, oAdd_l, oAdd_t, oAddL_l, oSub_i, oMul_i, oMul_s, oMul_l, oMulL_l, oMul_t, oDiv_i, oMod_i, oLt_i, oLe_i, oLt_s, oLe_s, oGt_i, oGe_i, oEq_i, oNe_i, oEq_s, oNe_s, oIs_n, oIsNot_n, oIs_b, oIn_s, bLen_l, bLen_t, bLen_s, bInt_i, bStr_s, bTuple_l, bTuple_t, bList_l, bList_t, itemsOf_l, itemsOf_t, itemsOf_s, isTy, isNonB, bTupleA_l, bTupleA_t, bTupleA_s, bListA_l, bListA_t, bListA_s, bRev_l, bRev_t, bRev_s, mCount_s, sZip_e, sEnum_e, sComp2_e, sLstR_e, sTupR_e, tgTup2_e, sUnp_e, unpD_2, unpD_3, unpD_4, bAll_2, oIx_s, oIx_l, oIx_t, oSl_s, oSl_l, oSl_t, oNe_ln, oEq_ln, Option.bind_some, Option.bind_none, Option.map_some, Option.map_none, List.set_cons_zero, List.set_cons_succ, List.map_cons, List.map_nil, List.replicate_succ, List.replicate_zero, List.cons_append, List.nil_append, List.length_cons, List.length_nil, if_true, if_false, Bool.not_true, Bool.not_false, Bool.false_eq_true, reduceIte, decide_true, decide_false, Bool.true_and, Bool.false_and, Bool.and_true, Bool.and_false, Nat.reduceLeDiff, Nat.reduceAdd, Nat.zero_add, and_self, and_true, true_and, and_false, false_and]⟩)]
        rfl
      obtain ⟨y', z', e⟩ := due_loop (c := c) (x0 := x0) (x3 := x3) (x4 := x4) (x5 := x5) (x6 := x6) (x7 := x7) (x8 := x8) (x9 := x9) (x10 := x10) (x14 := x14) n1 h0 h1 r (hold n h k).head? (some (nD k)) (some (.list ((hold n h k).map ps))) fun j hj => hk j (List.mem_cons_of_mem _ hj)
      have e0 : (none : Option (List Nat)).or (fh n h (k :: r)) = ((hold n h k).head?).or (fh n h r) := by
        unfold fh
        rw [Option.none_or, List.findSome?_cons]
        cases (hold n h k).head? <;> rfl
      rw [e0]
      refine ⟨y', z', forD_step rfl ?_ e⟩
      clear e e0
      simp -implicitDefEqProofs (disch := (first | omega | assumption | (simp only [List.length_append, List.length_map, rangeD_len, List.length_cons, List.length_nil, List.length_range, List.length_reverse]; omega))) only [sVar_0, sVar_1, sVar_2, sVar_3, sVar_4, sVar_5, sVar_6, sVar_7, sVar_8, sVar_9, sVar_10, sVar_11, sVar_12, sVar_13, sVar_14, sVar_15, sVar_16, sVar_17, sVar_18, sVar_19, sVar_20, sVar_21, sVar_22, sVar_23, sVar_24, sVar_25, sVar_26, sVar_27, sVar_28, sVar_29, sVar_30, sVar_31, sVar_32, sVar_33, sVar_34, sC_e, sDct_e, bSortedA_l, bSortedA_t, bSortedA_s, sOp_e, sU_e, sB_b, boolD_b, sAnd_e, sOr_e, sNot_e, sAndV_e, sOrV_e, sNotV_e, sIf_e, sNeg_e, negD_i, sCall_e, sNil_e, sCons_e, sTup_e, sLst_e, sIsi_e, sNoP_e, sPart_e, intD_i, sSl_e, sCup0_e, sCup1_e, sChain_e, sSkip_e, sSeq_e, thenO_nx, thenO_rt, thenO_bk, thenO_ct, sDrop_e, sRet_e, sRetN_e, sIte_e, sSet_e, sSets_e, setAll_nil, setAll_cons, sApp_e, sExt_e, sPut_e, sAug_e, sAugI_e, sPut0_e, sPut1_e, put0_i, put1_i, sFor_e, sItems_e, sRange1_e, range1_i, sRange2_e, sComp_e, tgN_e, wipeE_nil, wipeE_cons, sYes_e, runD_e, outR_rt, outR_nx, env0_t, env0_f, oAdd_i, oAdd_s, oAdd_l, oAdd_t, oAddL_l, oSub_i, oMul_i, oMul_s, oMul_l, oMulL_l, oMul_t, oDiv_i, oMod_i, oLt_i, oLe_i, oLt_s, oLe_s, oGt_i, oGe_i, oEq_i, oNe_i, oEq_s, oNe_s, oIs_n, oIsNot_n, oIs_b, oIn_s, bLen_l, bLen_t, bLen_s, bInt_i, bStr_s, bTuple_l, bTuple_t, bList_l, bList_t, itemsOf_l, itemsOf_t, itemsOf_s, isTy, isNonB, bTupleA_l, bTupleA_t, bTupleA_s, bListA_l, bListA_t, bListA_s, bRev_l, bRev_t, bRev_s, mCount_s, sZip_e, sEnum_e, sComp2_e, sLstR_e, sTupR_e, tgTup2_e, sUnp_e, unpD_2, unpD_3, unpD_4, bAll_2, oIx_s, oIx_l, oIx_t, oSl_s, oSl_l, oSl_t, oNe_ln, oEq_ln, Option.bind_some, Option.bind_none, Option.map_some, Option.map_none, List.set_cons_zero, List.set_cons_succ, List.map_cons, List.map_nil, List.replicate_succ, List.replicate_zero, List.cons_append, List.nil_append, List.length_cons, List.length_nil, if_true, if_false, Bool.not_true, Bool.not_false, Bool.false_eq_true, reduceIte, decide_true, decide_false, Bool.true_and, Bool.false_and, Bool.and_true, Bool.and_false, Nat.reduceLeDiff, Nat.reduceAdd, Nat.zero_add, and_self, and_true, true_and, and_false, false_and, hwd, hle, optD, hcomp]
      cases hold n h k with
      | nil => simp -implicitDefEqProofs (disch := (first | omega | assumption | (simp only [List.length_append, List.length_map, rangeD_len, List.length_cons, List.length_nil, List.length_range, List.length_reverse]; omega))) only [sVar_0, sVar_1, sVar_2, sVar_3, sVar_4, sVar_5, sVar_6, sVar_7, sVar_8, sVar_9, sVar_10, sVar_11, sVar_12, sVar_13, sVar_14, sVar_15, sVar_16, sVar_17, sVar_18, sVar_19, sVar_20, sVar_21, sVar_22, sVar_23, sVar_24, sVar_25, sVar_26, sVar_27, sVar_28, sVar_29, sVar_30, sVar_31, sVar_32, sVar_33, sVar_34, sC_e, sDct_e, bSortedA_l, bSortedA_t, bSortedA_s, sOp_e, sU_e, sB_b, boolD_b, sAnd_e, sOr_e, sNot_e, sAndV_e, sOrV_e, sNotV_e, sIf_e, sNeg_e, negD_i, sCall_e, sNil_e, sCons_e, sTup_e, sLst_e, sIsi_e, sNoP_e, sPart_e, intD_i, sSl_e, sCup0_e, sCup1_e, sChain_e, sSkip_e, sSeq_e, thenO_nx, thenO_rt, thenO_bk, thenO_ct, sDrop_e, sRet_e, sRetN_e, sIte_e, sSet_e, sSets_e, setAll_nil, setAll_cons, sApp_e, sExt_e, sPut_e, sAug_e, sAugI_e, sPut0_e, sPut1_e, put0_i, put1_i, sFor_e, sItems_e, sRange1_e, range1_i, sRange2_e, sComp_e, tgN_e, wipeE_nil, wipeE_cons, sYes_e, runD_e, outR_rt, outR_nx, env0_t, env0_f, oAdd_i, oAdd_s, oAdd_l, oAdd_t, oAddL_l, oSub_i, oMul_i, oMul_s, oMul_l, oMulL_l, oMul_t, oDiv_i, oMod_i, oLt_i, oLe_i, oLt_s, oLe_s, oGt_i, oGe_i, oEq_i, oNe_i, oEq_s, oNe_s, oIs_n, oIsNot_n, oIs_b, oIn_s, bLen_l, bLen_t, bLen_s, bInt_i, bStr_s, bTuple_l, bTuple_t, bList_l, bList_t, itemsOf_l, itemsOf_t, itemsOf_s, isTy, isNonB, bTupleA_l, bTupleA_t, bTupleA_s, bListA_l, bListA_t, bListA_s, bRev_l, bRev_t, bRev_s, mCount_s, sZip_e, sEnum_e, sComp2_e, sLstR_e, sTupR_e, tgTup2_e, sUnp_e, unpD_2, unpD_3, unpD_4, bAll_2, oIx_s, oIx_l, oIx_t, oSl_s, oSl_l, oSl_t, oNe_ln, oEq_ln, Option.bind_some, Option.bind_none, Option.map_some, Option.map_none, List.set_cons_zero, List.set_cons_succ, List.map_cons, List.map_nil, List.replicate_succ, List.replicate_zero, List.cons_append, List.nil_append, List.length_cons, List.length_nil, if_true, if_false, Bool.not_true, Bool.not_false, Bool.false_eq_true, reduceIte, decide_true, decide_false, Bool.true_and, Bool.false_and, Bool.and_true, Bool.and_false, Nat.reduceLeDiff, Nat.reduceAdd, Nat.zero_add, and_self, and_true, true_and, and_false, false_and, List.isEmpty_nil, List.head?_nil]
      | cons v t =>
        have ha : atI (ps v :: t.map ps) 0 = some (ps v) := by
          rw [atI_lt (by omega) (by rw [List.length_cons]; omega)]
          rfl
        simp -implicitDefEqProofs (disch := (first | omega | assumption | (simp only [List.length_append, List.length_map, rangeD_len, List.length_cons, List.length_nil, List.length_range, List.length_reverse]; omega))) only [sVar_0, sVar_1, sVar_2, sVar_3, sVar_4, sVar_5, sVar_6, sVar_7, sVar_8, sVar_9, sVar_10, sVar_11, sVar_12, sVar_13, sVar_14, sVar_15, sVar_16, sVar_17, sVar_18, sVar_19, sVar_20, sVar_21, sVar_22, sVar_23, sVar_24, sVar_25, sVar_26, sVar_27, sVar_28, sVar_29, sVar_30, sVar_31, sVar_32, sVar_33, sVar_34, sC_e, sDct_e, bSortedA_l, bSortedA_t, bSortedA_s, sOp_e, sU_e, sB_b, boolD_b, sAnd_e, sOr_e, sNot_e, sAndV_e, sOrV_e, sNotV_e, sIf_e, sNeg_e, negD_i, sCall_e, sNil_e, sCons_e, sTup_e, sLst_e, sIsi_e, sNoP_e, sPart_e, intD_i, sSl_e, sCup0_e, sCup1_e, sChain_e, sSkip_e, sSeq_e, thenO_nx, thenO_rt, thenO_bk, thenO_ct, sDrop_e, sRet_e, sRetN_e, sIte_e, sSet_e, sSets_e, setAll_nil, setAll_cons, sApp_e, sExt_e, sPut_e, sAug_e, sAugI_e, sPut0_e, sPut1_e, put0_i, put1_i, sFor_e, sItems_e, sRange1_e, range1_i, sRange2_e, sComp_e, tgN_e, wipeE_nil, wipeE_cons, sYes_e, runD_e, outR_rt, outR_nx, env0_t, env0_f, oAdd_i, oAdd_s, oAdd_l, oAdd_t, oAddL_l, oSub_i, oMul_i, oMul_s, oMul_l, oMulL_l, oMul_t, oDiv_i, oMod_i, oLt_i, oLe_i, oLt_s, oLe_s, oGt_i, oGe_i, oEq_i, oNe_i, oEq_s, oNe_s, oIs_n, oIsNot_n, oIs_b, oIn_s, bLen_l, bLen_t, bLen_s, bInt_i, bStr_s, bTuple_l, bTuple_t, bList_l, bList_t, itemsOf_l, itemsOf_t, itemsOf_s, isTy, isNonB, bTupleA_l, bTupleA_t, bTupleA_s, bListA_l, bListA_t, bListA_s, bRev_l, bRev_t, bRev_s, mCount_s, sZip_e, sEnum_e, sComp2_e, sLstR_e, sTupR_e, tgTup2_e, sUnp_e, unpD_2, unpD_3, unpD_4, bAll_2, oIx_s, oIx_l, oIx_t, oSl_s, oSl_l, oSl_t, oNe_ln, oEq_ln, Option.bind_some, Option.bind_none, Option.map_some, Option.map_none, List.set_cons_zero, List.set_cons_succ, List.map_cons, List.map_nil, List.replicate_succ, List.replicate_zero, List.cons_append, List.nil_append, List.length_cons, List.length_nil, if_true, if_false, Bool.not_true, Bool.not_false, Bool.false_eq_true, reduceIte, decide_true, decide_false, Bool.true_and, Bool.false_and, Bool.and_true, Bool.and_false, Nat.reduceLeDiff, Nat.reduceAdd, Nat.zero_add, and_self, and_true, true_and, and_false, false_and, List.isEmpty_cons, ha, List.head?_cons]
theorem right_ok {c : Cup} (hc : CupOk c) : ∃ c', m__law_right [] c = some (.bool true, c') ∧ CupOk c' := by
  obtain ⟨r1, c1, k1, hc1, r10, r11⟩ := roll_ok (n := 6) hc (by omega) (by omega)
  obtain ⟨r2, c2, k2, hc2, r20, r21⟩ := roll_ok (n := 4) hc1 (by omega) (by omega)
  obtain ⟨r3, c3, k3, hc3, r30, r31⟩ := roll_ok (n := 12) hc2 (by omega) (by omega)
  obtain ⟨a, c4, k4, hc4, al, as_⟩ := signs_ok (k := 1 + r3) hc3 (by omega) (by omega)
  obtain ⟨r5, c5, k5, hc5, r50, r51⟩ := roll_ok (n := 4) hc4 (by omega) (by omega)
  obtain ⟨b, c6, k6, hc6, bl, bs⟩ := signs_ok (k := 1 + r5) hc5 (by omega) (by omega)
  obtain ⟨d, c7, k7, hc7, hd⟩ := some_l (ds := [ps a, ps b]) hc6 (by simp) (by simp)
  obtain ⟨w, rfl, W⟩ : ∃ w, d = ps w ∧ Word w := by
    simp only [List.mem_cons, List.not_mem_nil, or_false] at hd
    rcases hd with rfl | rfl
    · exact ⟨_, rfl, by omega, by omega, as_⟩
    · exact ⟨_, rfl, by omega, by omega, bs⟩
  obtain ⟨r8, c8, k8, hc8, r80, r81⟩ := roll_ok (n := 6) hc7 (by omega) (by omega)
  obtain ⟨n, hn⟩ : ∃ n : Nat, 3 + r1 = (n : Int) := ⟨(3 + r1).toNat, by omega⟩
  obtain ⟨h, hh⟩ : ∃ n : Nat, 1 + r2 = (n : Int) := ⟨(1 + r2).toNat, by omega⟩
  obtain ⟨k, hk⟩ : ∃ n : Nat, 1 + r8 = (n : Int) := ⟨(1 + r8).toNat, by omega⟩
  have n0 : 3 ≤ n := by omega
  have n1 : n ≤ 24 := by omega
  have h0 : 1 ≤ h := by omega
  have h1 : h ≤ 24 := by omega
  have h40 : h ≤ 40 := by omega
  have k0 : 1 ≤ k := by omega
  have k1' : k ≤ 8 := by omega
  have w0 := W.lo
  have w1 := W.hi
  have hfar : ∀ c, m__law_went [ps w, nD n, .int 24] c = some (wD (RW w n 24), c) := fun c => went_t (h := 24) W n1 (by omega)
  have hcut : ∀ m : Nat, m ≤ 24 → Wk.cut ((RW w n 24).map ps) none (some (m : Int)) = (RW w n m).map ps := fun m hm => by
    rw [cut_map, cut_take]
    unfold RW
    rw [take_rows _ 24 m hm]
  have hr24 : range2 (.int 1) (.int 25) = some ((upto 24).map nD) := rfl
  have hle24 : ((upto 24).map nD).length ≤ 16777216 := by decide
  have hholds : ∀ (b0 b1 b2 b3 b5 b6 b7 b8 b9 b10 b11 b12 b13 : Option D) (t : Ev), compD (tgN 14) (sB (sOp oEq (sCall m__law_loose (sCons (sSl (sVar 4) sNoP (sPart (sVar 14))) sNil)) (sLst sNil))) (sVar 14) ((upto 24).map nD) (b0 :: b1 :: b2 :: b3 :: some (wD (RW w n 24)) :: b5 :: b6 :: b7 :: b8 :: b9 :: b10 :: b11 :: b12 :: b13 :: none :: t) c7 = some (((upto 24).filter (ho w n)).map nD, c7) := fun b0 b1 b2 b3 b5 b6 b7 b8 b9 b10 b11 b12 b13 t => by
    rw [compD_filterA (h := nD) (g := nD) (p := ho w n) (fun m hm => by
      have hm := upto_mem hm
      have h2 := hcut m hm.2
      exact ⟨_, rfl, by simp -implicitDefEqProofs (disch := (first | omega | assumption | (simp only [List.length_append, List.length_map, rangeD_len, List.length_cons, List.length_nil, List.length_range, List.length_reverse]; omega))) only [sVar_0, sVar_1, sVar_2, sVar_3, sVar_4, sVar_5, sVar_6, sVar_7, sVar_8, sVar_9, sVar_10, sVar_11, sVar_12, sVar_13, sVar_14, sVar_15, sVar_16, sVar_17, sVar_18, sVar_19, sVar_20, sVar_21, sVar_22, sVar_23, sVar_24, sVar_25, sVar_26, sVar_27, sVar_28, sVar_29, sVar_30, sVar_31, sVar_32, sVar_33, sVar_34, sC_e, sDct_e, bSortedA_l, bSortedA_t, bSortedA_s, sOp_e, sU_e, sB_b, boolD_b, sAnd_e, sOr_e, sNot_e, sAndV_e, sOrV_e, sNotV_e, sIf_e, sNeg_e, negD_i, sCall_e, sNil_e, sCons_e, sTup_e, sLst_e, sIsi_e, sNoP_e, sPart_e, intD_i, sSl_e, sCup0_e, sCup1_e, sChain_e, sSkip_e, sSeq_e, thenO_nx, thenO_rt, thenO_bk, thenO_ct, sDrop_e, sRet_e, sRetN_e, sIte_e, sSet_e, sSets_e, setAll_nil, setAll_cons, sApp_e, sExt_e, sPut_e, sAug_e, sAugI_e, sPut0_e, sPut1_e, put0_i, put1_i, sFor_e, sItems_e, sRange1_e, range1_i, sRange2_e, sComp_e, tgN_e, wipeE_nil, wipeE_cons, sYes_e, runD_e, outR_rt, outR_nx, env0_t, env0_f, oAdd_i, oAdd_s, oAdd_l, oAdd_t, oAddL_l, oSub_i, oMul_i, oMul_s, oMul_l, oMulL_l, oMul_t, oDiv_i, oMod_i, oLt_i, oLe_i, oLt_s, oLe_s, oGt_i, oGe_i, oEq_i, oNe_i, oEq_s, oNe_s, oIs_n, oIsNot_n, oIs_b, oIn_s, bLen_l, bLen_t, bLen_s, bInt_i, bStr_s, bTuple_l, bTuple_t, bList_l, bList_t, itemsOf_l, itemsOf_t, itemsOf_s, isTy, isNonB, bTupleA_l, bTupleA_t, bTupleA_s, bListA_l, bListA_t, bListA_s, bRev_l, bRev_t, bRev_s, mCount_s, sZip_e, sEnum_e, sComp2_e, sLstR_e, sTupR_e, tgTup2_e, sUnp_e, unpD_2, unpD_3, unpD_4, bAll_2, oIx_s, oIx_l, oIx_t, oSl_s, oSl_l, oSl_t, oNe_ln, oEq_ln, Option.bind_some, Option.bind_none, Option.map_some, Option.map_none, List.set_cons_zero, List.set_cons_succ, List.map_cons, List.map_nil, List.replicate_succ, List.replicate_zero, List.cons_append, List.nil_append, List.length_cons, List.length_nil, if_true, if_false, Bool.not_true, Bool.not_false, Bool.false_eq_true, reduceIte, decide_true, decide_false, Bool.true_and, Bool.false_and, Bool.and_true, Bool.and_false, Nat.reduceLeDiff, Nat.reduceAdd, Nat.zero_add, and_self, and_true, true_and, and_false, false_and, ↓h2, loose_t W n1 hm.1 (by omega : m ≤ 40), map_isEmpty, ho], fun _ => by simp -implicitDefEqProofs (disch := (first | omega | assumption | (simp only [List.length_append, List.length_map, rangeD_len, List.length_cons, List.length_nil, List.length_range, List.length_reverse]; omega))) only [sVar_0, sVar_1, sVar_2, sVar_3, sVar_4, sVar_5, sVar_6, sVar_7, sVar_8, sVar_9, sVar_10, sVar_11, sVar_12, sVar_13, sVar_14, sVar_15, sVar_16, sVar_17, sVar_18, sVar_19, sVar_20, sVar_21, sVar_22, sVar_23, sVar_24, sVar_25, sVar_26, sVar_27, sVar_28, sVar_29, sVar_30, sVar_31, sVar_32, sVar_33, sVar_34, sC_e, sDct_e, bSortedA_l, bSortedA_t, bSortedA_s, sOp_e, sU_e, sB_b, boolD_b, sAnd_e, sOr_e, sNot_e, sAndV_e, sOrV_e, sNotV_e, sIf_e, sNeg_e, negD_i, sCall_e, sNil_e, sCons_e, sTup_e, sLst_e, sIsi_e, sNoP_e, sPart_e, intD_i, sSl_e, sCup0_e, sCup1_e, sChain_e, sSkip_e, sSeq_e, thenO_nx, thenO_rt, thenO_bk, thenO_ct, sDrop_e, sRet_e, sRetN_e, sIte_e, sSet_e, sSets_e, setAll_nil, setAll_cons, sApp_e, sExt_e, sPut_e, sAug_e, sAugI_e, sPut0_e, sPut1_e, put0_i, put1_i, sFor_e, sItems_e, sRange1_e, range1_i, sRange2_e, sComp_e, tgN_e, wipeE_nil, wipeE_cons, sYes_e, runD_e, outR_rt, outR_nx, env0_t, env0_f, oAdd_i, oAdd_s, oAdd_l, oAdd_t, oAddL_l, oSub_i, oMul_i, oMul_s, oMul_l, oMulL_l, oMul_t, oDiv_i, oMod_i, oLt_i, oLe_i, oLt_s, oLe_s, oGt_i, oGe_i, oEq_i, oNe_i, oEq_s, oNe_s, oIs_n, oIsNot_n, oIs_b, oIn_s, bLen_l, bLen_t, bLen_s, bInt_i, bStr_s, bTuple_l, bTuple_t, bList_l, bList_t, itemsOf_l, itemsOf_t, itemsOf_s, isTy, isNonB, bTupleA_l, bTupleA_t, bTupleA_s, bListA_l, bListA_t, bListA_s, bRev_l, bRev_t, bRev_s, mCount_s, sZip_e, sEnum_e, sComp2_e, sLstR_e, sTupR_e, tgTup2_e, sUnp_e, unpD_2, unpD_3, unpD_4, bAll_2, oIx_s, oIx_l, oIx_t, oSl_s, oSl_l, oSl_t, oNe_ln, oEq_ln, Option.bind_some, Option.bind_none, Option.map_some, Option.map_none, List.set_cons_zero, List.set_cons_succ, List.map_cons, List.map_nil, List.replicate_succ, List.replicate_zero, List.cons_append, List.nil_append, List.length_cons, List.length_nil, if_true, if_false, Bool.not_true, Bool.not_false, Bool.false_eq_true, reduceIte, decide_true, decide_false, Bool.true_and, Bool.false_and, Bool.and_true, Bool.and_false, Nat.reduceLeDiff, Nat.reduceAdd, Nat.zero_add, and_self, and_true, true_and, and_false, false_and]⟩)]
  have hhd : ((upto 24).filter (ho w n)).head? = (upto w.length).find? (ho w n) := by rw [List.head?_filter, find_far w0 (by omega)]
  have f1 := fun c => to_hold_t (c := c) W n0 n1
  have f2 := fun c => unlike_t (c := c) W n0 n1
  have f3 := fun c => loose_behind_t (c := c) W n0 n1 h0 h40
  have huq := lenSet_tup (R := RW w n 24) (by rw [RW_len]; omega) (by rw [RW_len]; omega)
  rw [uq_far w0 (by omega)] at huq
  have hcuth := hcut h h1
  have hlz : (lz w n h).length ≤ 1000 := Nat.le_trans (nL_le n h w) (by omega)
  have sm1 := same_ok 8 (.tuple [optN ((upto w.length).find? (ho w n)), nD (uqW (RW w n w.length)), .tuple ((lz w n h).map nD)]) ⟨by simp, fun d hd => by
    simp only [List.mem_cons, List.not_mem_nil, or_false] at hd
    rcases hd with rfl | rfl | rfl
    · cases (upto w.length).find? (ho w n) <;> trivial
    · trivial
    · exact SameOk.mapT (k := 6) hlz fun _ _ => trivial⟩ c7
  have hwd := fun c => law_words_t (n := k) (c := c) k1'
  have hlek : (lw k).length ≤ 16777216 := by have := lw_le k1'; omega
  have hloose : ∀ (b0 b3 b4 b5 b6 b7 b8 b9 b10 b11 b12 b13 b14 : Option D), compD (tgN 15) sYes (sU bLen (sCall m__law_loose (sCons (sCall m__law_went (sCons (sVar 15) (sCons (sVar 1) (sCons (sVar 2) sNil)))) sNil))) ((lw k).map ps) [b0, some (nD n), some (nD h), b3, b4, b5, b6, b7, b8, b9, b10, b11, b12, b13, b14, none] c8 = some (((lw k).map (nL n h)).map nD, c8) := fun b0 b3 b4 b5 b6 b7 b8 b9 b10 b11 b12 b13 b14 => by
    rw [compD_mapA (h := ps) (g := fun v => nD (nL n h v)) (fun v hv => by
      have V := lw_word k0 k1' hv
      exact ⟨_, rfl, by simp -implicitDefEqProofs (disch := (first | omega | assumption | (simp only [List.length_append, List.length_map, rangeD_len, List.length_cons, List.length_nil, List.length_range, List.length_reverse]; omega))) only [sVar_0, sVar_1, sVar_2, sVar_3, sVar_4, sVar_5, sVar_6, sVar_7, sVar_8, sVar_9, sVar_10, sVar_11, sVar_12, sVar_13, sVar_14, sVar_15, sVar_16, sVar_17, sVar_18, sVar_19, sVar_20, sVar_21, sVar_22, sVar_23, sVar_24, sVar_25, sVar_26, sVar_27, sVar_28, sVar_29, sVar_30, sVar_31, sVar_32, sVar_33, sVar_34, sC_e, sDct_e, bSortedA_l, bSortedA_t, bSortedA_s, sOp_e, sU_e, sB_b, boolD_b, sAnd_e, sOr_e, sNot_e, sAndV_e, sOrV_e, sNotV_e, sIf_e, sNeg_e, negD_i, sCall_e, sNil_e, sCons_e, sTup_e, sLst_e, sIsi_e, sNoP_e, sPart_e, intD_i, sSl_e, sCup0_e, sCup1_e, sChain_e, sSkip_e, sSeq_e, thenO_nx, thenO_rt, thenO_bk, thenO_ct, sDrop_e, sRet_e, sRetN_e, sIte_e, sSet_e, sSets_e, setAll_nil, setAll_cons, sApp_e, sExt_e, sPut_e, sAug_e, sAugI_e, sPut0_e, sPut1_e, put0_i, put1_i, sFor_e, sItems_e, sRange1_e, range1_i, sRange2_e, sComp_e, tgN_e, wipeE_nil, wipeE_cons, sYes_e, runD_e, outR_rt, outR_nx, env0_t, env0_f, oAdd_i, oAdd_s, oAdd_l, oAdd_t, oAddL_l, oSub_i, oMul_i, oMul_s, oMul_l, oMulL_l, oMul_t, oDiv_i, oMod_i, oLt_i, oLe_i, oLt_s, oLe_s, oGt_i, oGe_i, oEq_i, oNe_i, oEq_s, oNe_s, oIs_n, oIsNot_n, oIs_b, oIn_s, bLen_l, bLen_t, bLen_s, bInt_i, bStr_s, bTuple_l, bTuple_t, bList_l, bList_t, itemsOf_l, itemsOf_t, itemsOf_s, isTy, isNonB, bTupleA_l, bTupleA_t, bTupleA_s, bListA_l, bListA_t, bListA_s, bRev_l, bRev_t, bRev_s, mCount_s, sZip_e, sEnum_e, sComp2_e, sLstR_e, sTupR_e, tgTup2_e, sUnp_e, unpD_2, unpD_3, unpD_4, bAll_2, oIx_s, oIx_l, oIx_t, oSl_s, oSl_l, oSl_t, oNe_ln, oEq_ln, Option.bind_some, Option.bind_none, Option.map_some, Option.map_none, List.set_cons_zero, List.set_cons_succ, List.map_cons, List.map_nil, List.replicate_succ, List.replicate_zero, List.cons_append, List.nil_append, List.length_cons, List.length_nil, if_true, if_false, Bool.not_true, Bool.not_false, Bool.false_eq_true, reduceIte, decide_true, decide_false, Bool.true_and, Bool.false_and, Bool.and_true, Bool.and_false, Nat.reduceLeDiff, Nat.reduceAdd, Nat.zero_add, and_self, and_true, true_and, and_false, false_and, went_t V n1 h40, loose_t V n1 h0 h40, List.length_map, nL]⟩), List.map_map]
    rfl
  have hrn : ((n : Int) + 1).toNat = n + 1 := by omega
  have hlen1 : (rangeD 0 (n + 1)).length ≤ 16777216 := by rw [rangeD_len]; omega
  have hcnt : ∀ (b0 b1 b2 b3 b4 b5 b6 b7 b9 b10 b11 b12 b13 b15 : Option D), compD (tgN 14) sYes (sOp mLCount (sVar 8) (sVar 14)) (rangeD 0 (n + 1)) [b0, b1, b2, b3, b4, b5, b6, b7, some (.list (((lw k).map (nL n h)).map nD)), b9, b10, b11, b12, b13, none, b15] c8 = some (cnt n h (lw k), c8) := fun b0 b1 b2 b3 b4 b5 b6 b7 b9 b10 b11 b12 b13 b15 => by
    rw [rangeD_nat, compD_mapA (h := nD) (g := fun m => nD (((lw k).map (nL n h)).count m)) (fun m _ => ⟨_, rfl, by simp -implicitDefEqProofs (disch := (first | omega | assumption | (simp only [List.length_append, List.length_map, rangeD_len, List.length_cons, List.length_nil, List.length_range, List.length_reverse]; omega))) only [sVar_0, sVar_1, sVar_2, sVar_3, sVar_4, sVar_5, sVar_6, sVar_7, sVar_8, sVar_9, sVar_10, sVar_11, sVar_12, sVar_13, sVar_14, sVar_15, sVar_16, sVar_17, sVar_18, sVar_19, sVar_20, sVar_21, sVar_22, sVar_23, sVar_24, sVar_25, sVar_26, sVar_27, sVar_28, sVar_29, sVar_30, sVar_31, sVar_32, sVar_33, sVar_34, sC_e, sDct_e, bSortedA_l, bSortedA_t, bSortedA_s, sOp_e, sU_e, sB_b, boolD_b, sAnd_e, sOr_e, sNot_e, sAndV_e, sOrV_e, sNotV_e, sIf_e, sNeg_e, negD_i, sCall_e, sNil_e, sCons_e, sTup_e, sLst_e, sIsi_e, sNoP_e, sPart_e, intD_i, sSl_e, sCup0_e, sCup1_e, sChain_e, sSkip_e, sSeq_e, thenO_nx, thenO_rt, thenO_bk, thenO_ct, sDrop_e, sRet_e, sRetN_e, sIte_e, sSet_e, sSets_e, setAll_nil, setAll_cons, sApp_e, sExt_e, sPut_e, sAug_e, sAugI_e, sPut0_e, sPut1_e, put0_i, put1_i, sFor_e, sItems_e, sRange1_e, range1_i, sRange2_e, sComp_e, tgN_e, wipeE_nil, wipeE_cons, sYes_e, runD_e, outR_rt, outR_nx, env0_t, env0_f, oAdd_i, oAdd_s, oAdd_l, oAdd_t, oAddL_l, oSub_i, oMul_i, oMul_s, oMul_l, oMulL_l, oMul_t, oDiv_i, oMod_i, oLt_i, oLe_i, oLt_s, oLe_s, oGt_i, oGe_i, oEq_i, oNe_i, oEq_s, oNe_s, oIs_n, oIsNot_n, oIs_b, oIn_s, bLen_l, bLen_t, bLen_s, bInt_i, bStr_s, bTuple_l, bTuple_t, bList_l, bList_t, itemsOf_l, itemsOf_t, itemsOf_s, isTy, isNonB, bTupleA_l, bTupleA_t, bTupleA_s, bListA_l, bListA_t, bListA_s, bRev_l, bRev_t, bRev_s, mCount_s, sZip_e, sEnum_e, sComp2_e, sLstR_e, sTupR_e, tgTup2_e, sUnp_e, unpD_2, unpD_3, unpD_4, bAll_2, oIx_s, oIx_l, oIx_t, oSl_s, oSl_l, oSl_t, oNe_ln, oEq_ln, Option.bind_some, Option.bind_none, Option.map_some, Option.map_none, List.set_cons_zero, List.set_cons_succ, List.map_cons, List.map_nil, List.replicate_succ, List.replicate_zero, List.cons_append, List.nil_append, List.length_cons, List.length_nil, if_true, if_false, Bool.not_true, Bool.not_false, Bool.false_eq_true, reduceIte, decide_true, decide_false, Bool.true_and, Bool.false_and, Bool.and_true, Bool.and_false, Nat.reduceLeDiff, Nat.reduceAdd, Nat.zero_add, and_self, and_true, true_and, and_false, false_and, mLCount_n]⟩)]
    rfl
  have hnev : ∀ (b0 b2 b3 b4 b5 b6 b7 b8 b9 b10 b11 b12 b13 b14 : Option D), compD (tgN 15) (sB (sOp oNe (sCall m__law_loose (sCons (sCall m__law_went (sCons (sVar 15) (sCons (sVar 1) (sCons (sC (.int 12)) sNil)))) sNil)) (sLst sNil))) (sVar 15) ((lw k).map ps) [b0, some (nD n), b2, b3, b4, b5, b6, b7, b8, b9, b10, b11, b12, b13, b14, none] c8 = some (((lw k).filter fun v => !ho v n k).map ps, c8) := fun b0 b2 b3 b4 b5 b6 b7 b8 b9 b10 b11 b12 b13 b14 => by
    rw [compD_filterA (h := ps) (g := ps) (p := fun v => !ho v n k) (fun v hv => by
      have V := lw_word k0 k1' hv
      have hl := lw_row k v hv
      have hw12 : m__law_went [ps v, nD n, .int 12] c8 = some (wD (RW v n 12), c8) := went_t (h := 12) V n1 (by omega)
      have hl12 := loose_t (h := 12) (c := c8) V n1 (by omega) (by omega)
      rw [lz_far V.lo (by omega : v.length ≤ 12), hl] at hl12
      exact ⟨_, rfl, by simp -implicitDefEqProofs (disch := (first | omega | assumption | (simp only [List.length_append, List.length_map, rangeD_len, List.length_cons, List.length_nil, List.length_range, List.length_reverse]; omega))) only [sVar_0, sVar_1, sVar_2, sVar_3, sVar_4, sVar_5, sVar_6, sVar_7, sVar_8, sVar_9, sVar_10, sVar_11, sVar_12, sVar_13, sVar_14, sVar_15, sVar_16, sVar_17, sVar_18, sVar_19, sVar_20, sVar_21, sVar_22, sVar_23, sVar_24, sVar_25, sVar_26, sVar_27, sVar_28, sVar_29, sVar_30, sVar_31, sVar_32, sVar_33, sVar_34, sC_e, sDct_e, bSortedA_l, bSortedA_t, bSortedA_s, sOp_e, sU_e, sB_b, boolD_b, sAnd_e, sOr_e, sNot_e, sAndV_e, sOrV_e, sNotV_e, sIf_e, sNeg_e, negD_i, sCall_e, sNil_e, sCons_e, sTup_e, sLst_e, sIsi_e, sNoP_e, sPart_e, intD_i, sSl_e, sCup0_e, sCup1_e, sChain_e, sSkip_e, sSeq_e, thenO_nx, thenO_rt, thenO_bk, thenO_ct, sDrop_e, sRet_e, sRetN_e, sIte_e, sSet_e, sSets_e, setAll_nil, setAll_cons, sApp_e, sExt_e, sPut_e, sAug_e, sAugI_e, sPut0_e, sPut1_e, put0_i, put1_i, sFor_e, sItems_e, sRange1_e, range1_i, sRange2_e, sComp_e, tgN_e, wipeE_nil, wipeE_cons, sYes_e, runD_e, outR_rt, outR_nx, env0_t, env0_f, oAdd_i, oAdd_s, oAdd_l, oAdd_t, oAddL_l, oSub_i, oMul_i, oMul_s, oMul_l, oMulL_l, oMul_t, oDiv_i, oMod_i, oLt_i, oLe_i, oLt_s, oLe_s, oGt_i, oGe_i, oEq_i, oNe_i, oEq_s, oNe_s, oIs_n, oIsNot_n, oIs_b, oIn_s, bLen_l, bLen_t, bLen_s, bInt_i, bStr_s, bTuple_l, bTuple_t, bList_l, bList_t, itemsOf_l, itemsOf_t, itemsOf_s, isTy, isNonB, bTupleA_l, bTupleA_t, bTupleA_s, bListA_l, bListA_t, bListA_s, bRev_l, bRev_t, bRev_s, mCount_s, sZip_e, sEnum_e, sComp2_e, sLstR_e, sTupR_e, tgTup2_e, sUnp_e, unpD_2, unpD_3, unpD_4, bAll_2, oIx_s, oIx_l, oIx_t, oSl_s, oSl_l, oSl_t, oNe_ln, oEq_ln, Option.bind_some, Option.bind_none, Option.map_some, Option.map_none, List.set_cons_zero, List.set_cons_succ, List.map_cons, List.map_nil, List.replicate_succ, List.replicate_zero, List.cons_append, List.nil_append, List.length_cons, List.length_nil, if_true, if_false, Bool.not_true, Bool.not_false, Bool.false_eq_true, reduceIte, decide_true, decide_false, Bool.true_and, Bool.false_and, Bool.and_true, Bool.and_false, Nat.reduceLeDiff, Nat.reduceAdd, Nat.zero_add, and_self, and_true, true_and, and_false, false_and, hw12, hl12, map_isEmpty, ho], fun _ => by simp -implicitDefEqProofs (disch := (first | omega | assumption | (simp only [List.length_append, List.length_map, rangeD_len, List.length_cons, List.length_nil, List.length_range, List.length_reverse]; omega))) only [sVar_0, sVar_1, sVar_2, sVar_3, sVar_4, sVar_5, sVar_6, sVar_7, sVar_8, sVar_9, sVar_10, sVar_11, sVar_12, sVar_13, sVar_14, sVar_15, sVar_16, sVar_17, sVar_18, sVar_19, sVar_20, sVar_21, sVar_22, sVar_23, sVar_24, sVar_25, sVar_26, sVar_27, sVar_28, sVar_29, sVar_30, sVar_31, sVar_32, sVar_33, sVar_34, sC_e, sDct_e, bSortedA_l, bSortedA_t, bSortedA_s, sOp_e, sU_e, sB_b, boolD_b, sAnd_e, sOr_e, sNot_e, sAndV_e, sOrV_e, sNotV_e, sIf_e, sNeg_e, negD_i, sCall_e, sNil_e, sCons_e, sTup_e, sLst_e, sIsi_e, sNoP_e, sPart_e, intD_i, sSl_e, sCup0_e, sCup1_e, sChain_e, sSkip_e, sSeq_e, thenO_nx, thenO_rt, thenO_bk, thenO_ct, sDrop_e, sRet_e, sRetN_e, sIte_e, sSet_e, sSets_e, setAll_nil, setAll_cons, sApp_e, sExt_e, sPut_e, sAug_e, sAugI_e, sPut0_e, sPut1_e, put0_i, put1_i, sFor_e, sItems_e, sRange1_e, range1_i, sRange2_e, sComp_e, tgN_e, wipeE_nil, wipeE_cons, sYes_e, runD_e, outR_rt, outR_nx, env0_t, env0_f, oAdd_i, oAdd_s, oAdd_l, oAdd_t, oAddL_l, oSub_i, oMul_i, oMul_s, oMul_l, oMulL_l, oMul_t, oDiv_i, oMod_i, oLt_i, oLe_i, oLt_s, oLe_s, oGt_i, oGe_i, oEq_i, oNe_i, oEq_s, oNe_s, oIs_n, oIsNot_n, oIs_b, oIn_s, bLen_l, bLen_t, bLen_s, bInt_i, bStr_s, bTuple_l, bTuple_t, bList_l, bList_t, itemsOf_l, itemsOf_t, itemsOf_s, isTy, isNonB, bTupleA_l, bTupleA_t, bTupleA_s, bListA_l, bListA_t, bListA_s, bRev_l, bRev_t, bRev_s, mCount_s, sZip_e, sEnum_e, sComp2_e, sLstR_e, sTupR_e, tgTup2_e, sUnp_e, unpD_2, unpD_3, unpD_4, bAll_2, oIx_s, oIx_l, oIx_t, oSl_s, oSl_l, oSl_t, oNe_ln, oEq_ln, Option.bind_some, Option.bind_none, Option.map_some, Option.map_none, List.set_cons_zero, List.set_cons_succ, List.map_cons, List.map_nil, List.replicate_succ, List.replicate_zero, List.cons_append, List.nil_append, List.length_cons, List.length_nil, if_true, if_false, Bool.not_true, Bool.not_false, Bool.false_eq_true, reduceIte, decide_true, decide_false, Bool.true_and, Bool.false_and, Bool.and_true, Bool.and_false, Nat.reduceLeDiff, Nat.reduceAdd, Nat.zero_add, and_self, and_true, true_and, and_false, false_and]⟩)]
  have g1 := fun c => holding_many_t (c := c) n0 n1 h0 h40 k0 k1'
  have g2 := fun c => loose_counts_t (c := c) n0 n1 h0 h40 k0 k1'
  have g3 := fun c => never_t (c := c) n0 n1 k0 k1'
  have hc0 : atI (cnt n h (lw k)) 0 = some (nD (hold n h k).length) := by
    rw [← count_zero]
    exact range_getD (f := fun m => nD (((lw k).map (nL n h)).count m)) (j := 0) (by omega)
  have sm2 := same_ok 8 (.tuple [nD (hold n h k).length, .tuple (cnt n h (lw k)), nD ((lw k).filter fun v => !ho v n k).length]) ⟨by simp, fun d hd => by
    simp only [List.mem_cons, List.not_mem_nil, or_false] at hd
    rcases hd with rfl | rfl | rfl
    · trivial
    · exact SameOk.mapT (k := 6) (f := fun m => nD (((lw k).map (nL n h)).count m)) (by rw [List.length_range]; omega) fun _ _ => trivial
    · trivial⟩ c8
  have hr9 : range2 (.int 1) (.int 9) = some ((upto 8).map nD) := rfl
  have f4 := fun c => first_holding_t (c := c) n0 n1 h0 h40
  have sm3 := same_ok 8 (optD (fh n h (upto 8))) (by cases fh n h (upto 8) <;> exact trivial) c8
  unfold m__law_right b__law_right
  simp -implicitDefEqProofs (disch := (first | omega | assumption | (simp only [List.length_append, List.length_map, rangeD_len, List.length_cons, List.length_nil, List.length_range, List.length_reverse]; omega))) only [sVar_0, sVar_1, sVar_2, sVar_3, sVar_4, sVar_5, sVar_6, sVar_7, sVar_8, sVar_9, sVar_10, sVar_11, sVar_12, sVar_13, sVar_14, sVar_15, sVar_16, sVar_17, sVar_18, sVar_19, sVar_20, sVar_21, sVar_22, sVar_23, sVar_24, sVar_25, sVar_26, sVar_27, sVar_28, sVar_29, sVar_30, sVar_31, sVar_32, sVar_33, sVar_34, sC_e, sDct_e, bSortedA_l, bSortedA_t, bSortedA_s, sOp_e, sU_e, sB_b, boolD_b, sAnd_e, sOr_e, sNot_e, sAndV_e, sOrV_e, sNotV_e, sIf_e, sNeg_e, negD_i, sCall_e, sNil_e, sCons_e, sTup_e, sLst_e, sIsi_e, sNoP_e, sPart_e, intD_i, sSl_e, sCup0_e, sCup1_e, sChain_e, sSkip_e, sSeq_e, thenO_nx, thenO_rt, thenO_bk, thenO_ct, sDrop_e, sRet_e, sRetN_e, sIte_e, sSet_e, sSets_e, setAll_nil, setAll_cons, sApp_e, sExt_e, sPut_e, sAug_e, sAugI_e, sPut0_e, sPut1_e, put0_i, put1_i, sFor_e, sItems_e, sRange1_e, range1_i, sRange2_e, sComp_e, tgN_e, wipeE_nil, wipeE_cons, sYes_e, runD_e, outR_rt, outR_nx, env0_t, env0_f, oAdd_i, oAdd_s, oAdd_l, oAdd_t, oAddL_l, oSub_i, oMul_i, oMul_s, oMul_l, oMulL_l, oMul_t, oDiv_i, oMod_i, oLt_i, oLe_i, oLt_s, oLe_s, oGt_i, oGe_i, oEq_i, oNe_i, oEq_s, oNe_s, oIs_n, oIsNot_n, oIs_b, oIn_s, bLen_l, bLen_t, bLen_s, bInt_i, bStr_s, bTuple_l, bTuple_t, bList_l, bList_t, itemsOf_l, itemsOf_t, itemsOf_s, isTy, isNonB, bTupleA_l, bTupleA_t, bTupleA_s, bListA_l, bListA_t, bListA_s, bRev_l, bRev_t, bRev_s, mCount_s, sZip_e, sEnum_e, sComp2_e, sLstR_e, sTupR_e, tgTup2_e, sUnp_e, unpD_2, unpD_3, unpD_4, bAll_2, oIx_s, oIx_l, oIx_t, oSl_s, oSl_l, oSl_t, oNe_ln, oEq_ln, Option.bind_some, Option.bind_none, Option.map_some, Option.map_none, List.set_cons_zero, List.set_cons_succ, List.map_cons, List.map_nil, List.replicate_succ, List.replicate_zero, List.cons_append, List.nil_append, List.length_cons, List.length_nil, if_true, if_false, Bool.not_true, Bool.not_false, Bool.false_eq_true, reduceIte, decide_true, decide_false, Bool.true_and, Bool.false_and, Bool.and_true, Bool.and_false, Nat.reduceLeDiff, Nat.reduceAdd, Nat.zero_add, and_self, and_true, true_and, and_false, false_and, k1, hn, k2, hh, k3, k4, k5, k6, k7, hfar, hr24, hle24, hholds, f1, f2, f3, ↓head_5, hhd, huq, ↓hcuth, loose_t W n1 h0 h40, sm1]
  simp -implicitDefEqProofs (disch := (first | omega | assumption | (simp only [List.length_append, List.length_map, rangeD_len, List.length_cons, List.length_nil, List.length_range, List.length_reverse]; omega))) only [sVar_0, sVar_1, sVar_2, sVar_3, sVar_4, sVar_5, sVar_6, sVar_7, sVar_8, sVar_9, sVar_10, sVar_11, sVar_12, sVar_13, sVar_14, sVar_15, sVar_16, sVar_17, sVar_18, sVar_19, sVar_20, sVar_21, sVar_22, sVar_23, sVar_24, sVar_25, sVar_26, sVar_27, sVar_28, sVar_29, sVar_30, sVar_31, sVar_32, sVar_33, sVar_34, sC_e, sDct_e, bSortedA_l, bSortedA_t, bSortedA_s, sOp_e, sU_e, sB_b, boolD_b, sAnd_e, sOr_e, sNot_e, sAndV_e, sOrV_e, sNotV_e, sIf_e, sNeg_e, negD_i, sCall_e, sNil_e, sCons_e, sTup_e, sLst_e, sIsi_e, sNoP_e, sPart_e, intD_i, sSl_e, sCup0_e, sCup1_e, sChain_e, sSkip_e, sSeq_e, thenO_nx, thenO_rt, thenO_bk, thenO_ct, sDrop_e, sRet_e, sRetN_e, sIte_e, sSet_e, sSets_e, setAll_nil, setAll_cons, sApp_e, sExt_e, sPut_e, sAug_e, sAugI_e, sPut0_e, sPut1_e, put0_i, put1_i, sFor_e, sItems_e, sRange1_e, range1_i, sRange2_e, sComp_e, tgN_e, wipeE_nil, wipeE_cons, sYes_e, runD_e, outR_rt, outR_nx, env0_t, env0_f, oAdd_i, oAdd_s, oAdd_l, oAdd_t, oAddL_l, oSub_i, oMul_i, oMul_s, oMul_l, oMulL_l, oMul_t, oDiv_i, oMod_i, oLt_i, oLe_i, oLt_s, oLe_s, oGt_i, oGe_i, oEq_i, oNe_i, oEq_s, oNe_s, oIs_n, oIsNot_n, oIs_b, oIn_s, bLen_l, bLen_t, bLen_s, bInt_i, bStr_s, bTuple_l, bTuple_t, bList_l, bList_t, itemsOf_l, itemsOf_t, itemsOf_s, isTy, isNonB, bTupleA_l, bTupleA_t, bTupleA_s, bListA_l, bListA_t, bListA_s, bRev_l, bRev_t, bRev_s, mCount_s, sZip_e, sEnum_e, sComp2_e, sLstR_e, sTupR_e, tgTup2_e, sUnp_e, unpD_2, unpD_3, unpD_4, bAll_2, oIx_s, oIx_l, oIx_t, oSl_s, oSl_l, oSl_t, oNe_ln, oEq_ln, Option.bind_some, Option.bind_none, Option.map_some, Option.map_none, List.set_cons_zero, List.set_cons_succ, List.map_cons, List.map_nil, List.replicate_succ, List.replicate_zero, List.cons_append, List.nil_append, List.length_cons, List.length_nil, if_true, if_false, Bool.not_true, Bool.not_false, Bool.false_eq_true, reduceIte, decide_true, decide_false, Bool.true_and, Bool.false_and, Bool.and_true, Bool.and_false, Nat.reduceLeDiff, Nat.reduceAdd, Nat.zero_add, and_self, and_true, true_and, and_false, false_and, k8, hk, hwd, hlek, hloose, hrn, hlen1, hcnt, hnev, g1, g2, g3, hc0, sm2, hr9, List.length_map]
  obtain ⟨y', z', e⟩ := due_loop (n := n) (h := h) (c := c8) (x0 := none) (x3 := some (ps w)) (x4 := some (wD (RW w n 24))) (x5 := some (.list (((upto 24).filter (ho w n)).map nD))) (x6 := some (.tuple [nD (hold n h k).length, .tuple (cnt n h (lw k)), nD ((lw k).filter fun v => !ho v n k).length])) (x7 := some (nD k)) (x8 := some (.list (((lw k).map (nL n h)).map nD))) (x9 := some (.tuple (cnt n h (lw k)))) (x10 := some (nD ((lw k).filter fun v => !ho v n k).length)) (x14 := none) n1 h0 h40 (upto 8) none none none fun j hj => upto_mem hj
  rw [Option.none_or] at e
  rw [show optD none = PyData.none from rfl] at e
  rw [e]
  simp -implicitDefEqProofs (disch := (first | omega | assumption | (simp only [List.length_append, List.length_map, rangeD_len, List.length_cons, List.length_nil, List.length_range, List.length_reverse]; omega))) only [sVar_0, sVar_1, sVar_2, sVar_3, sVar_4, sVar_5, sVar_6, sVar_7, sVar_8, sVar_9, sVar_10, sVar_11, sVar_12, sVar_13, sVar_14, sVar_15, sVar_16, sVar_17, sVar_18, sVar_19, sVar_20, sVar_21, sVar_22, sVar_23, sVar_24, sVar_25, sVar_26, sVar_27, sVar_28, sVar_29, sVar_30, sVar_31, sVar_32, sVar_33, sVar_34, sC_e, sDct_e, bSortedA_l, bSortedA_t, bSortedA_s, sOp_e, sU_e, sB_b, boolD_b, sAnd_e, sOr_e, sNot_e, sAndV_e, sOrV_e, sNotV_e, sIf_e, sNeg_e, negD_i, sCall_e, sNil_e, sCons_e, sTup_e, sLst_e, sIsi_e, sNoP_e, sPart_e, intD_i, sSl_e, sCup0_e, sCup1_e, sChain_e, sSkip_e, sSeq_e, thenO_nx, thenO_rt, thenO_bk, thenO_ct, sDrop_e, sRet_e, sRetN_e, sIte_e, sSet_e, sSets_e, setAll_nil, setAll_cons, sApp_e, sExt_e, sPut_e, sAug_e, sAugI_e, sPut0_e, sPut1_e, put0_i, put1_i, sFor_e, sItems_e, sRange1_e, range1_i, sRange2_e, sComp_e, tgN_e, wipeE_nil, wipeE_cons, sYes_e, runD_e, outR_rt, outR_nx, env0_t, env0_f, oAdd_i, oAdd_s, oAdd_l, oAdd_t, oAddL_l, oSub_i, oMul_i, oMul_s, oMul_l, oMulL_l, oMul_t, oDiv_i, oMod_i, oLt_i, oLe_i, oLt_s, oLe_s, oGt_i, oGe_i, oEq_i, oNe_i, oEq_s, oNe_s, oIs_n, oIsNot_n, oIs_b, oIn_s, bLen_l, bLen_t, bLen_s, bInt_i, bStr_s, bTuple_l, bTuple_t, bList_l, bList_t, itemsOf_l, itemsOf_t, itemsOf_s, isTy, isNonB, bTupleA_l, bTupleA_t, bTupleA_s, bListA_l, bListA_t, bListA_s, bRev_l, bRev_t, bRev_s, mCount_s, sZip_e, sEnum_e, sComp2_e, sLstR_e, sTupR_e, tgTup2_e, sUnp_e, unpD_2, unpD_3, unpD_4, bAll_2, oIx_s, oIx_l, oIx_t, oSl_s, oSl_l, oSl_t, oNe_ln, oEq_ln, Option.bind_some, Option.bind_none, Option.map_some, Option.map_none, List.set_cons_zero, List.set_cons_succ, List.map_cons, List.map_nil, List.replicate_succ, List.replicate_zero, List.cons_append, List.nil_append, List.length_cons, List.length_nil, if_true, if_false, Bool.not_true, Bool.not_false, Bool.false_eq_true, reduceIte, decide_true, decide_false, Bool.true_and, Bool.false_and, Bool.and_true, Bool.and_false, Nat.reduceLeDiff, Nat.reduceAdd, Nat.zero_add, and_self, and_true, true_and, and_false, false_and, f4, sm3]
  exact ⟨_, rfl, hc8⟩
/-! the law's end: words of two unlike signs -/
def okN (n : Nat) : Bool :=
  let odd := n % 2 == 1
  decide ((upto 2).find? (ho [111, 105] n) = if odd then some 2 else none) && decide (uqW (RW [111, 105] n 2) = if odd then 2 else 1) && decide (((lw 2).filter fun w => ho w n 2) = if odd then [[105, 111], [111, 105]] else [])
theorem ok_all : ∀ i < 22, okN (3 + i) = true := by decide +kernel
theorem hold_one {n k : Nat} (n0 : 3 ≤ n) : hold n 1 k = [] := by
  unfold hold
  rw [List.filter_eq_nil_iff]
  intro w _ hw
  unfold ho at hw
  rw [lz_one, List.isEmpty_iff] at hw
  have := congrArg List.length hw
  rw [List.length_range, List.length_nil] at this
  omega
theorem fh_one {n : Nat} (n0 : 3 ≤ n) : fh n 1 (upto 8) = none := by
  unfold fh
  rw [List.findSome?_eq_none_iff]
  intro k _
  rw [hold_one n0]
  rfl
theorem hold_1 {n h : Nat} (n0 : 3 ≤ n) (h0 : 1 ≤ h) : hold n h 1 = [] := by
  unfold hold
  rw [List.filter_eq_nil_iff]
  intro w hw' hw
  have hl := lw_row 1 w hw'
  unfold ho at hw
  rw [lz_far (by omega) (by omega : w.length ≤ h), hl, lz_one, List.isEmpty_iff] at hw
  have := congrArg List.length hw
  rw [List.length_range, List.length_nil] at this
  omega
theorem hold_2 {n h : Nat} (h0 : 2 ≤ h) : hold n h 2 = (lw 2).filter fun w => ho w n 2 := List.filter_congr fun w hw => by
  have hl := lw_row 2 w hw
  unfold ho
  rw [lz_far (by omega) (by omega : w.length ≤ h), hl]
theorem law_true : ∀ c, CupOk c → ∃ c', b_law (List.replicate 8 none) c = some (.rt (.bool true) c') := by
  intro c hc
  unfold b_law
  simp -implicitDefEqProofs (disch := (first | omega | assumption | (simp only [List.length_append, List.length_map, rangeD_len, List.length_cons, List.length_nil, List.length_range, List.length_reverse]; omega))) only [sVar_0, sVar_1, sVar_2, sVar_3, sVar_4, sVar_5, sVar_6, sVar_7, sVar_8, sVar_9, sVar_10, sVar_11, sVar_12, sVar_13, sVar_14, sVar_15, sVar_16, sVar_17, sVar_18, sVar_19, sVar_20, sVar_21, sVar_22, sVar_23, sVar_24, sVar_25, sVar_26, sVar_27, sVar_28, sVar_29, sVar_30, sVar_31, sVar_32, sVar_33, sVar_34, sC_e, sDct_e, bSortedA_l, bSortedA_t, bSortedA_s, sOp_e, sU_e, sB_b, boolD_b, sAnd_e, sOr_e, sNot_e, sAndV_e, sOrV_e, sNotV_e, sIf_e, sNeg_e, negD_i, sCall_e, sNil_e, sCons_e, sTup_e, sLst_e, sIsi_e, sNoP_e, sPart_e, intD_i, sSl_e, sCup0_e, sCup1_e, sChain_e, sSkip_e, sSeq_e, thenO_nx, thenO_rt, thenO_bk, thenO_ct, sDrop_e, sRet_e, sRetN_e, sIte_e, sSet_e, sSets_e, setAll_nil, setAll_cons, sApp_e, sExt_e, sPut_e, sAug_e, sAugI_e, sPut0_e, sPut1_e, put0_i, put1_i, sFor_e, sItems_e, sRange1_e, range1_i, sRange2_e, sComp_e, tgN_e, wipeE_nil, wipeE_cons, sYes_e, runD_e, outR_rt, outR_nx, env0_t, env0_f, oAdd_i, oAdd_s, oAdd_l, oAdd_t, oAddL_l, oSub_i, oMul_i, oMul_s, oMul_l, oMulL_l, oMul_t, oDiv_i, oMod_i, oLt_i, oLe_i, oLt_s, oLe_s, oGt_i, oGe_i, oEq_i, oNe_i, oEq_s, oNe_s, oIs_n, oIsNot_n, oIs_b, oIn_s, bLen_l, bLen_t, bLen_s, bInt_i, bStr_s, bTuple_l, bTuple_t, bList_l, bList_t, itemsOf_l, itemsOf_t, itemsOf_s, isTy, isNonB, bTupleA_l, bTupleA_t, bTupleA_s, bListA_l, bListA_t, bListA_s, bRev_l, bRev_t, bRev_s, mCount_s, sZip_e, sEnum_e, sComp2_e, sLstR_e, sTupR_e, tgTup2_e, sUnp_e, unpD_2, unpD_3, unpD_4, bAll_2, oIx_s, oIx_l, oIx_t, oSl_s, oSl_l, oSl_t, oNe_ln, oEq_ln, Option.bind_some, Option.bind_none, Option.map_some, Option.map_none, List.set_cons_zero, List.set_cons_succ, List.map_cons, List.map_nil, List.replicate_succ, List.replicate_zero, List.cons_append, List.nil_append, List.length_cons, List.length_nil, if_true, if_false, Bool.not_true, Bool.not_false, Bool.false_eq_true, reduceIte, decide_true, decide_false, Bool.true_and, Bool.false_and, Bool.and_true, Bool.and_false, Nat.reduceLeDiff, Nat.reduceAdd, Nat.zero_add, and_self, and_true, true_and, and_false, false_and, range1_i, Int.reduceToNat]
  obtain ⟨Γ2, c2, h1, hc2, x2, rfl⟩ := forD_range (tg := tgN 2) (lo := 0) (n := 2) (b := b_law_1) (c := c)
    (fun i Γ c' => CupOk c' ∧ ∃ x2, Γ = [none, none, x2, none, none, none, none, none])
    (fun i Γ c' hi ⟨hc, x2, hΓ⟩ => by
      subst hΓ
      obtain ⟨c2, e, hc2⟩ := right_ok hc
      exact ⟨_, [none, none, some (.int (0 + (i : Int))), none, none, none, none, none], c2, rfl, .inl (by simp -implicitDefEqProofs (disch := (first | omega | assumption | (simp only [List.length_append, List.length_map, rangeD_len, List.length_cons, List.length_nil, List.length_range, List.length_reverse]; omega))) only [sVar_0, sVar_1, sVar_2, sVar_3, sVar_4, sVar_5, sVar_6, sVar_7, sVar_8, sVar_9, sVar_10, sVar_11, sVar_12, sVar_13, sVar_14, sVar_15, sVar_16, sVar_17, sVar_18, sVar_19, sVar_20, sVar_21, sVar_22, sVar_23, sVar_24, sVar_25, sVar_26, sVar_27, sVar_28, sVar_29, sVar_30, sVar_31, sVar_32, sVar_33, sVar_34, sC_e, sDct_e, bSortedA_l, bSortedA_t, bSortedA_s, sOp_e, sU_e, sB_b, boolD_b, sAnd_e, sOr_e, sNot_e, sAndV_e, sOrV_e, sNotV_e, sIf_e, sNeg_e, negD_i, sCall_e, sNil_e, sCons_e, sTup_e, sLst_e, sIsi_e, sNoP_e, sPart_e, intD_i, sSl_e, sCup0_e, sCup1_e, sChain_e, sSkip_e, sSeq_e, thenO_nx, thenO_rt, thenO_bk, thenO_ct, sDrop_e, sRet_e, sRetN_e, sIte_e, sSet_e, sSets_e, setAll_nil, setAll_cons, sApp_e, sExt_e, sPut_e, sAug_e, sAugI_e, sPut0_e, sPut1_e, put0_i, put1_i, sFor_e, sItems_e, sRange1_e, range1_i, sRange2_e, sComp_e, tgN_e, wipeE_nil, wipeE_cons, sYes_e, runD_e, outR_rt, outR_nx, env0_t, env0_f, oAdd_i, oAdd_s, oAdd_l, oAdd_t, oAddL_l, oSub_i, oMul_i, oMul_s, oMul_l, oMulL_l, oMul_t, oDiv_i, oMod_i, oLt_i, oLe_i, oLt_s, oLe_s, oGt_i, oGe_i, oEq_i, oNe_i, oEq_s, oNe_s, oIs_n, oIsNot_n, oIs_b, oIn_s, bLen_l, bLen_t, bLen_s, bInt_i, bStr_s, bTuple_l, bTuple_t, bList_l, bList_t, itemsOf_l, itemsOf_t, itemsOf_s, isTy, isNonB, bTupleA_l, bTupleA_t, bTupleA_s, bListA_l, bListA_t, bListA_s, bRev_l, bRev_t, bRev_s, mCount_s, sZip_e, sEnum_e, sComp2_e, sLstR_e, sTupR_e, tgTup2_e, sUnp_e, unpD_2, unpD_3, unpD_4, bAll_2, oIx_s, oIx_l, oIx_t, oSl_s, oSl_l, oSl_t, oNe_ln, oEq_ln, Option.bind_some, Option.bind_none, Option.map_some, Option.map_none, List.set_cons_zero, List.set_cons_succ, List.map_cons, List.map_nil, List.replicate_succ, List.replicate_zero, List.cons_append, List.nil_append, List.length_cons, List.length_nil, if_true, if_false, Bool.not_true, Bool.not_false, Bool.false_eq_true, reduceIte, decide_true, decide_false, Bool.true_and, Bool.false_and, Bool.and_true, Bool.and_false, Nat.reduceLeDiff, Nat.reduceAdd, Nat.zero_add, and_self, and_true, true_and, and_false, false_and, e]), hc2, _, rfl⟩) (Γ := [none, none, none, none, none, none, none, none]) ⟨hc, _, rfl⟩
  rw [h1]
  obtain ⟨q, c3, k3, hc3, q0, q1⟩ := roll_ok (n := 22) hc2 (by omega) (by omega)
  obtain ⟨p, c4, k4, hc4, p0, p1⟩ := roll_ok (n := 39) hc3 (by omega) (by omega)
  obtain ⟨n, hn⟩ : ∃ n : Nat, 3 + q = (n : Int) := ⟨(3 + q).toNat, by omega⟩
  obtain ⟨h, hh⟩ : ∃ h : Nat, 2 + p = (h : Int) := ⟨(2 + p).toNat, by omega⟩
  have n0 : 3 ≤ n := by omega
  have n1 : n ≤ 24 := by omega
  have h0 : 2 ≤ h := by omega
  have h40 : h ≤ 40 := by omega
  have W : Word [111, 105] := ⟨by decide, by decide, fun x hx => by
    simp only [List.mem_cons, List.not_mem_nil, or_false] at hx
    exact hx.symm⟩
  have ok := ok_all (n - 3) (by omega)
  rw [show 3 + (n - 3) = n by omega] at ok
  have ok' : (decide ((upto 2).find? (ho [111, 105] n) = if (n % 2 == 1) = true then some 2 else none) && decide (uqW (RW [111, 105] n 2) = if (n % 2 == 1) = true then 2 else 1) && decide (((lw 2).filter fun w => ho w n 2) = if (n % 2 == 1) = true then [[105, 111], [111, 105]] else [])) = true := ok
  simp only [Bool.and_eq_true, decide_eq_true_eq] at ok'
  obtain ⟨⟨o1, o2⟩, o3⟩ := ok'
  have f1 : m_rounds_to_hold [ps [111, 105], nD n] c4 = some (optN ((upto 2).find? (ho [111, 105] n)), c4) := to_hold_t W n0 n1
  have f2 : m_unlike_rounds [ps [111, 105], nD n] c4 = some (nD (uqW (RW [111, 105] n 2)), c4) := unlike_t W n0 n1
  have f3 : m_first_holding [nD n, .int 1] c4 = some (.none, c4) := by
    have := first_holding_t (h := 1) (c := c4) n0 n1 (by omega) (by omega)
    rw [fh_one n0] at this
    exact this
  have f4 : m_holding_many [nD n, nD h, .int 2] c4 = some (nD ((lw 2).filter fun w => ho w n 2).length, c4) := by
    have := holding_many_t (k := 2) (c := c4) n0 n1 (by omega : 1 ≤ h) h40 (by omega) (by omega)
    rw [hold_2 h0] at this
    exact this
  have hmod : oMod (nD n) (.int 2) = some (nD (n % 2)) := by
    rw [oMod_i (by omega)]
    exact congrArg (fun x => some (PyData.int x)) (by omega)
  rw [o1] at f1
  rw [o2] at f2
  rw [o3] at f4
  by_cases e : n % 2 = 1
  · have e2 : (n % 2 == 1) = true := by simpa using e
    rw [if_pos e2] at f1 f2 f4 o3
    have f1' : m_rounds_to_hold [ps [111, 105], nD n] c4 = some (.int 2, c4) := f1
    have f2' : m_unlike_rounds [ps [111, 105], nD n] c4 = some (.int 2, c4) := f2
    have f4' : m_holding_many [nD n, nD h, .int 2] c4 = some (.int 2, c4) := f4
    have sm := same_ok 8 (.tuple [.int 2, .int 2, .none, .int 2]) ⟨by simp, fun d hd => by
      simp only [List.mem_cons, List.not_mem_nil, or_false] at hd
      rcases hd with rfl | rfl | rfl | rfl <;> trivial⟩ c4
    have d1 : decide (((n % 2 : Nat) : Int) = 1) = true := decide_eq_true (by omega)
    have hfh : fh n h (upto 8) = some [105, 111] := by
      unfold fh
      rw [show upto 8 = 1 :: 2 :: [3, 4, 5, 6, 7, 8] from rfl, List.findSome?_cons, hold_1 n0 (by omega), List.findSome?_cons, hold_2 h0, o3]
      rfl
    have g1 := first_holding_t (c := c4) n0 n1 (by omega : 1 ≤ h) h40
    rw [hfh] at g1
    have g1' : m_first_holding [nD n, nD h] c4 = some (ps [105, 111], c4) := g1
    have g2 : m_loose_behind [ps [111, 105], nD n, .int 1] c4 = some (.tuple ((List.range n).map nD), c4) := by
      have := loose_behind_t (h := 1) (c := c4) W n0 n1 (by omega) (by omega)
      rw [lz_one] at this
      exact this
    have sm2 := same_pair (a := ps [105, 111]) (b := .tuple ((List.range n).map nD)) (c := c4) trivial (SameOk.mapT (k := 6) (by rw [List.length_range]; omega) fun _ _ => trivial)
    have hle : (rangeD 0 n).length ≤ 16777216 := by rw [rangeD_len]; omega
    simp -implicitDefEqProofs (disch := (first | omega | assumption | (simp only [List.length_append, List.length_map, rangeD_len, List.length_cons, List.length_nil, List.length_range, List.length_reverse]; omega))) only [sVar_0, sVar_1, sVar_2, sVar_3, sVar_4, sVar_5, sVar_6, sVar_7, sVar_8, sVar_9, sVar_10, sVar_11, sVar_12, sVar_13, sVar_14, sVar_15, sVar_16, sVar_17, sVar_18, sVar_19, sVar_20, sVar_21, sVar_22, sVar_23, sVar_24, sVar_25, sVar_26, sVar_27, sVar_28, sVar_29, sVar_30, sVar_31, sVar_32, sVar_33, sVar_34, sC_e, sDct_e, bSortedA_l, bSortedA_t, bSortedA_s, sOp_e, sU_e, sB_b, boolD_b, sAnd_e, sOr_e, sNot_e, sAndV_e, sOrV_e, sNotV_e, sIf_e, sNeg_e, negD_i, sCall_e, sNil_e, sCons_e, sTup_e, sLst_e, sIsi_e, sNoP_e, sPart_e, intD_i, sSl_e, sCup0_e, sCup1_e, sChain_e, sSkip_e, sSeq_e, thenO_nx, thenO_rt, thenO_bk, thenO_ct, sDrop_e, sRet_e, sRetN_e, sIte_e, sSet_e, sSets_e, setAll_nil, setAll_cons, sApp_e, sExt_e, sPut_e, sAug_e, sAugI_e, sPut0_e, sPut1_e, put0_i, put1_i, sFor_e, sItems_e, sRange1_e, range1_i, sRange2_e, sComp_e, tgN_e, wipeE_nil, wipeE_cons, sYes_e, runD_e, outR_rt, outR_nx, env0_t, env0_f, oAdd_i, oAdd_s, oAdd_l, oAdd_t, oAddL_l, oSub_i, oMul_i, oMul_s, oMul_l, oMulL_l, oMul_t, oDiv_i, oMod_i, oLt_i, oLe_i, oLt_s, oLe_s, oGt_i, oGe_i, oEq_i, oNe_i, oEq_s, oNe_s, oIs_n, oIsNot_n, oIs_b, oIn_s, bLen_l, bLen_t, bLen_s, bInt_i, bStr_s, bTuple_l, bTuple_t, bList_l, bList_t, itemsOf_l, itemsOf_t, itemsOf_s, isTy, isNonB, bTupleA_l, bTupleA_t, bTupleA_s, bListA_l, bListA_t, bListA_s, bRev_l, bRev_t, bRev_s, mCount_s, sZip_e, sEnum_e, sComp2_e, sLstR_e, sTupR_e, tgTup2_e, sUnp_e, unpD_2, unpD_3, unpD_4, bAll_2, oIx_s, oIx_l, oIx_t, oSl_s, oSl_l, oSl_t, oNe_ln, oEq_ln, Option.bind_some, Option.bind_none, Option.map_some, Option.map_none, List.set_cons_zero, List.set_cons_succ, List.map_cons, List.map_nil, List.replicate_succ, List.replicate_zero, List.cons_append, List.nil_append, List.length_cons, List.length_nil, if_true, if_false, Bool.not_true, Bool.not_false, Bool.false_eq_true, reduceIte, decide_true, decide_false, Bool.true_and, Bool.false_and, Bool.and_true, Bool.and_false, Nat.reduceLeDiff, Nat.reduceAdd, Nat.zero_add, and_self, and_true, true_and, and_false, false_and, k3, hn, k4, hh, ↓hmod, d1, f1', f2', f3, f4', sm, g1', g2, Int.toNat_natCast, hle]
    rw [rangeD_nat, compD_mapA (h := nD) (g := nD) (fun i _ => ⟨_, rfl, by simp -implicitDefEqProofs (disch := (first | omega | assumption | (simp only [List.length_append, List.length_map, rangeD_len, List.length_cons, List.length_nil, List.length_range, List.length_reverse]; omega))) only [sVar_0, sVar_1, sVar_2, sVar_3, sVar_4, sVar_5, sVar_6, sVar_7, sVar_8, sVar_9, sVar_10, sVar_11, sVar_12, sVar_13, sVar_14, sVar_15, sVar_16, sVar_17, sVar_18, sVar_19, sVar_20, sVar_21, sVar_22, sVar_23, sVar_24, sVar_25, sVar_26, sVar_27, sVar_28, sVar_29, sVar_30, sVar_31, sVar_32, sVar_33, sVar_34, sC_e, sDct_e, bSortedA_l, bSortedA_t, bSortedA_s, sOp_e, sU_e, sB_b, boolD_b, sAnd_e, sOr_e, sNot_e, sAndV_e, sOrV_e, sNotV_e, sIf_e, sNeg_e, negD_i, sCall_e, sNil_e, sCons_e, sTup_e, sLst_e, sIsi_e, sNoP_e, sPart_e, intD_i, sSl_e, sCup0_e, sCup1_e, sChain_e, sSkip_e, sSeq_e, thenO_nx, thenO_rt, thenO_bk, thenO_ct, sDrop_e, sRet_e, sRetN_e, sIte_e, sSet_e, sSets_e, setAll_nil, setAll_cons, sApp_e, sExt_e, sPut_e, sAug_e, sAugI_e, sPut0_e, sPut1_e, put0_i, put1_i, sFor_e, sItems_e, sRange1_e, range1_i, sRange2_e, sComp_e, tgN_e, wipeE_nil, wipeE_cons, sYes_e, runD_e, outR_rt, outR_nx, env0_t, env0_f, oAdd_i, oAdd_s, oAdd_l, oAdd_t, oAddL_l, oSub_i, oMul_i, oMul_s, oMul_l, oMulL_l, oMul_t, oDiv_i, oMod_i, oLt_i, oLe_i, oLt_s, oLe_s, oGt_i, oGe_i, oEq_i, oNe_i, oEq_s, oNe_s, oIs_n, oIsNot_n, oIs_b, oIn_s, bLen_l, bLen_t, bLen_s, bInt_i, bStr_s, bTuple_l, bTuple_t, bList_l, bList_t, itemsOf_l, itemsOf_t, itemsOf_s, isTy, isNonB, bTupleA_l, bTupleA_t, bTupleA_s, bListA_l, bListA_t, bListA_s, bRev_l, bRev_t, bRev_s, mCount_s, sZip_e, sEnum_e, sComp2_e, sLstR_e, sTupR_e, tgTup2_e, sUnp_e, unpD_2, unpD_3, unpD_4, bAll_2, oIx_s, oIx_l, oIx_t, oSl_s, oSl_l, oSl_t, oNe_ln, oEq_ln, Option.bind_some, Option.bind_none, Option.map_some, Option.map_none, List.set_cons_zero, List.set_cons_succ, List.map_cons, List.map_nil, List.replicate_succ, List.replicate_zero, List.cons_append, List.nil_append, List.length_cons, List.length_nil, if_true, if_false, Bool.not_true, Bool.not_false, Bool.false_eq_true, reduceIte, decide_true, decide_false, Bool.true_and, Bool.false_and, Bool.and_true, Bool.and_false, Nat.reduceLeDiff, Nat.reduceAdd, Nat.zero_add, and_self, and_true, true_and, and_false, false_and]⟩)]
    simp -implicitDefEqProofs (disch := (first | omega | assumption | (simp only [List.length_append, List.length_map, rangeD_len, List.length_cons, List.length_nil, List.length_range, List.length_reverse]; omega))) only [sVar_0, sVar_1, sVar_2, sVar_3, sVar_4, sVar_5, sVar_6, sVar_7, sVar_8, sVar_9, sVar_10, sVar_11, sVar_12, sVar_13, sVar_14, sVar_15, sVar_16, sVar_17, sVar_18, sVar_19, sVar_20, sVar_21, sVar_22, sVar_23, sVar_24, sVar_25, sVar_26, sVar_27, sVar_28, sVar_29, sVar_30, sVar_31, sVar_32, sVar_33, sVar_34, sC_e, sDct_e, bSortedA_l, bSortedA_t, bSortedA_s, sOp_e, sU_e, sB_b, boolD_b, sAnd_e, sOr_e, sNot_e, sAndV_e, sOrV_e, sNotV_e, sIf_e, sNeg_e, negD_i, sCall_e, sNil_e, sCons_e, sTup_e, sLst_e, sIsi_e, sNoP_e, sPart_e, intD_i, sSl_e, sCup0_e, sCup1_e, sChain_e, sSkip_e, sSeq_e, thenO_nx, thenO_rt, thenO_bk, thenO_ct, sDrop_e, sRet_e, sRetN_e, sIte_e, sSet_e, sSets_e, setAll_nil, setAll_cons, sApp_e, sExt_e, sPut_e, sAug_e, sAugI_e, sPut0_e, sPut1_e, put0_i, put1_i, sFor_e, sItems_e, sRange1_e, range1_i, sRange2_e, sComp_e, tgN_e, wipeE_nil, wipeE_cons, sYes_e, runD_e, outR_rt, outR_nx, env0_t, env0_f, oAdd_i, oAdd_s, oAdd_l, oAdd_t, oAddL_l, oSub_i, oMul_i, oMul_s, oMul_l, oMulL_l, oMul_t, oDiv_i, oMod_i, oLt_i, oLe_i, oLt_s, oLe_s, oGt_i, oGe_i, oEq_i, oNe_i, oEq_s, oNe_s, oIs_n, oIsNot_n, oIs_b, oIn_s, bLen_l, bLen_t, bLen_s, bInt_i, bStr_s, bTuple_l, bTuple_t, bList_l, bList_t, itemsOf_l, itemsOf_t, itemsOf_s, isTy, isNonB, bTupleA_l, bTupleA_t, bTupleA_s, bListA_l, bListA_t, bListA_s, bRev_l, bRev_t, bRev_s, mCount_s, sZip_e, sEnum_e, sComp2_e, sLstR_e, sTupR_e, tgTup2_e, sUnp_e, unpD_2, unpD_3, unpD_4, bAll_2, oIx_s, oIx_l, oIx_t, oSl_s, oSl_l, oSl_t, oNe_ln, oEq_ln, Option.bind_some, Option.bind_none, Option.map_some, Option.map_none, List.set_cons_zero, List.set_cons_succ, List.map_cons, List.map_nil, List.replicate_succ, List.replicate_zero, List.cons_append, List.nil_append, List.length_cons, List.length_nil, if_true, if_false, Bool.not_true, Bool.not_false, Bool.false_eq_true, reduceIte, decide_true, decide_false, Bool.true_and, Bool.false_and, Bool.and_true, Bool.and_false, Nat.reduceLeDiff, Nat.reduceAdd, Nat.zero_add, and_self, and_true, true_and, and_false, false_and, sm2]
    exact ⟨_, rfl⟩
  · have e2 : ¬ (n % 2 == 1) = true := by simpa using e
    rw [if_neg e2] at f1 f2 f4 o3
    have f1' : m_rounds_to_hold [ps [111, 105], nD n] c4 = some (.none, c4) := f1
    have f2' : m_unlike_rounds [ps [111, 105], nD n] c4 = some (.int 1, c4) := f2
    have f4' : m_holding_many [nD n, nD h, .int 2] c4 = some (.int 0, c4) := f4
    have sm := same_ok 8 (.tuple [.none, .int 1, .none, .int 0]) ⟨by simp, fun d hd => by
      simp only [List.mem_cons, List.not_mem_nil, or_false] at hd
      rcases hd with rfl | rfl | rfl | rfl <;> trivial⟩ c4
    have d1 : decide (((n % 2 : Nat) : Int) = 1) = false := decide_eq_false (by omega)
    simp -implicitDefEqProofs (disch := (first | omega | assumption | (simp only [List.length_append, List.length_map, rangeD_len, List.length_cons, List.length_nil, List.length_range, List.length_reverse]; omega))) only [sVar_0, sVar_1, sVar_2, sVar_3, sVar_4, sVar_5, sVar_6, sVar_7, sVar_8, sVar_9, sVar_10, sVar_11, sVar_12, sVar_13, sVar_14, sVar_15, sVar_16, sVar_17, sVar_18, sVar_19, sVar_20, sVar_21, sVar_22, sVar_23, sVar_24, sVar_25, sVar_26, sVar_27, sVar_28, sVar_29, sVar_30, sVar_31, sVar_32, sVar_33, sVar_34, sC_e, sDct_e, bSortedA_l, bSortedA_t, bSortedA_s, sOp_e, sU_e, sB_b, boolD_b, sAnd_e, sOr_e, sNot_e, sAndV_e, sOrV_e, sNotV_e, sIf_e, sNeg_e, negD_i, sCall_e, sNil_e, sCons_e, sTup_e, sLst_e, sIsi_e, sNoP_e, sPart_e, intD_i, sSl_e, sCup0_e, sCup1_e, sChain_e, sSkip_e, sSeq_e, thenO_nx, thenO_rt, thenO_bk, thenO_ct, sDrop_e, sRet_e, sRetN_e, sIte_e, sSet_e, sSets_e, setAll_nil, setAll_cons, sApp_e, sExt_e, sPut_e, sAug_e, sAugI_e, sPut0_e, sPut1_e, put0_i, put1_i, sFor_e, sItems_e, sRange1_e, range1_i, sRange2_e, sComp_e, tgN_e, wipeE_nil, wipeE_cons, sYes_e, runD_e, outR_rt, outR_nx, env0_t, env0_f, oAdd_i, oAdd_s, oAdd_l, oAdd_t, oAddL_l, oSub_i, oMul_i, oMul_s, oMul_l, oMulL_l, oMul_t, oDiv_i, oMod_i, oLt_i, oLe_i, oLt_s, oLe_s, oGt_i, oGe_i, oEq_i, oNe_i, oEq_s, oNe_s, oIs_n, oIsNot_n, oIs_b, oIn_s, bLen_l, bLen_t, bLen_s, bInt_i, bStr_s, bTuple_l, bTuple_t, bList_l, bList_t, itemsOf_l, itemsOf_t, itemsOf_s, isTy, isNonB, bTupleA_l, bTupleA_t, bTupleA_s, bListA_l, bListA_t, bListA_s, bRev_l, bRev_t, bRev_s, mCount_s, sZip_e, sEnum_e, sComp2_e, sLstR_e, sTupR_e, tgTup2_e, sUnp_e, unpD_2, unpD_3, unpD_4, bAll_2, oIx_s, oIx_l, oIx_t, oSl_s, oSl_l, oSl_t, oNe_ln, oEq_ln, Option.bind_some, Option.bind_none, Option.map_some, Option.map_none, List.set_cons_zero, List.set_cons_succ, List.map_cons, List.map_nil, List.replicate_succ, List.replicate_zero, List.cons_append, List.nil_append, List.length_cons, List.length_nil, if_true, if_false, Bool.not_true, Bool.not_false, Bool.false_eq_true, reduceIte, decide_true, decide_false, Bool.true_and, Bool.false_and, Bool.and_true, Bool.and_false, Nat.reduceLeDiff, Nat.reduceAdd, Nat.zero_add, and_self, and_true, true_and, and_false, false_and, k3, hn, k4, hh, ↓hmod, d1, f1', f2', f3, f4', sm]
    exact ⟨_, rfl⟩
end Wk
set_option Elab.async false
set_option linter.all false
set_option maxRecDepth 100000
set_option maxHeartbeats 4000000
namespace Wk
open PySem PySem.Spec PyProof.Rows L2
/-! ### the text -/
def topS (i : Nat) : Stmt := PySem.Challenge.pw_wickerwork_k79_whole_words_that_hold.main.body.getD i (.Pass ⟨0, 0, 0, 0⟩)
abbrev s_is_whole : Stmt := topS 11
abbrev s_fits_whole : Stmt := topS 12
abbrev s_fits_signs : Stmt := topS 13
abbrev s_fits_word : Stmt := topS 14
abbrev s_need_word : Stmt := topS 15
abbrev s_need_stakes : Stmt := topS 16
abbrev s_wound_in : Stmt := topS 17
abbrev s_columns_in : Stmt := topS 18
abbrev s_need_rounds : Stmt := topS 21
abbrev s_need_length : Stmt := topS 22
abbrev s_rounds_in : Stmt := topS 23
abbrev s_words_in : Stmt := topS 24
abbrev s_is_mixed : Stmt := topS 25
abbrev s_holds_in : Stmt := topS 26
abbrev s_holding_in : Stmt := topS 27
abbrev s_rounds_to_hold : Stmt := topS 28
abbrev s_holding_many : Stmt := topS 29
abbrev s_first_holding : Stmt := topS 30
abbrev s_never_holding : Stmt := topS 31
abbrev s_unlike_rounds : Stmt := topS 32
abbrev s_loose_behind : Stmt := topS 33
abbrev s_loose_counts : Stmt := topS 34
abbrev s__law_cup : Stmt := topS 36
abbrev s__law_roll : Stmt := topS 37
abbrev s__law_some : Stmt := topS 38
abbrev s__law_same : Stmt := topS 39
abbrev s__law_signs : Stmt := topS 40
abbrev s__law_wound : Stmt := topS 41
abbrev s__law_went : Stmt := topS 42
abbrev s__law_words : Stmt := topS 43
abbrev s__law_loose : Stmt := topS 44
abbrev s__law_right : Stmt := topS 45
abbrev s_law : Stmt := topS 46
structure Txt (K : PySem.W.Frag) (mg : Str → Option Value) where
  a_is_whole : Addr
  d_is_whole : FuncData
  F_is_whole : Fun K "is_whole" "is_whole" s_is_whole a_is_whole d_is_whole
  m_is_whole : mg "is_whole" = some (.ref a_is_whole)
  a_fits_whole : Addr
  d_fits_whole : FuncData
  F_fits_whole : Fun K "fits_whole" "fits_whole" s_fits_whole a_fits_whole d_fits_whole
  m_fits_whole : mg "fits_whole" = some (.ref a_fits_whole)
  a_fits_signs : Addr
  d_fits_signs : FuncData
  F_fits_signs : Fun K "fits_signs" "fits_signs" s_fits_signs a_fits_signs d_fits_signs
  m_fits_signs : mg "fits_signs" = some (.ref a_fits_signs)
  a_fits_word : Addr
  d_fits_word : FuncData
  F_fits_word : Fun K "fits_word" "fits_word" s_fits_word a_fits_word d_fits_word
  m_fits_word : mg "fits_word" = some (.ref a_fits_word)
  a_need_word : Addr
  d_need_word : FuncData
  F_need_word : Fun K "need_word" "need_word" s_need_word a_need_word d_need_word
  m_need_word : mg "need_word" = some (.ref a_need_word)
  a_need_stakes : Addr
  d_need_stakes : FuncData
  F_need_stakes : Fun K "need_stakes" "need_stakes" s_need_stakes a_need_stakes d_need_stakes
  m_need_stakes : mg "need_stakes" = some (.ref a_need_stakes)
  a_wound_in : Addr
  d_wound_in : FuncData
  F_wound_in : Fun K "wound_in" "wound_in" s_wound_in a_wound_in d_wound_in
  m_wound_in : mg "wound_in" = some (.ref a_wound_in)
  a_columns_in : Addr
  d_columns_in : FuncData
  F_columns_in : Fun K "columns_in" "columns_in" s_columns_in a_columns_in d_columns_in
  m_columns_in : mg "columns_in" = some (.ref a_columns_in)
  a_need_rounds : Addr
  d_need_rounds : FuncData
  F_need_rounds : Fun K "need_rounds" "need_rounds" s_need_rounds a_need_rounds d_need_rounds
  m_need_rounds : mg "need_rounds" = some (.ref a_need_rounds)
  a_need_length : Addr
  d_need_length : FuncData
  F_need_length : Fun K "need_length" "need_length" s_need_length a_need_length d_need_length
  m_need_length : mg "need_length" = some (.ref a_need_length)
  a_rounds_in : Addr
  d_rounds_in : FuncData
  F_rounds_in : Fun K "rounds_in" "rounds_in" s_rounds_in a_rounds_in d_rounds_in
  m_rounds_in : mg "rounds_in" = some (.ref a_rounds_in)
  a_words_in : Addr
  d_words_in : FuncData
  F_words_in : Fun K "words_in" "words_in" s_words_in a_words_in d_words_in
  m_words_in : mg "words_in" = some (.ref a_words_in)
  a_is_mixed : Addr
  d_is_mixed : FuncData
  F_is_mixed : Fun K "is_mixed" "is_mixed" s_is_mixed a_is_mixed d_is_mixed
  m_is_mixed : mg "is_mixed" = some (.ref a_is_mixed)
  a_holds_in : Addr
  d_holds_in : FuncData
  F_holds_in : Fun K "holds_in" "holds_in" s_holds_in a_holds_in d_holds_in
  m_holds_in : mg "holds_in" = some (.ref a_holds_in)
  a_holding_in : Addr
  d_holding_in : FuncData
  F_holding_in : Fun K "holding_in" "holding_in" s_holding_in a_holding_in d_holding_in
  m_holding_in : mg "holding_in" = some (.ref a_holding_in)
  a_rounds_to_hold : Addr
  d_rounds_to_hold : FuncData
  F_rounds_to_hold : Fun K "rounds_to_hold" "rounds_to_hold" s_rounds_to_hold a_rounds_to_hold d_rounds_to_hold
  m_rounds_to_hold : mg "rounds_to_hold" = some (.ref a_rounds_to_hold)
  a_holding_many : Addr
  d_holding_many : FuncData
  F_holding_many : Fun K "holding_many" "holding_many" s_holding_many a_holding_many d_holding_many
  m_holding_many : mg "holding_many" = some (.ref a_holding_many)
  a_first_holding : Addr
  d_first_holding : FuncData
  F_first_holding : Fun K "first_holding" "first_holding" s_first_holding a_first_holding d_first_holding
  m_first_holding : mg "first_holding" = some (.ref a_first_holding)
  a_never_holding : Addr
  d_never_holding : FuncData
  F_never_holding : Fun K "never_holding" "never_holding" s_never_holding a_never_holding d_never_holding
  m_never_holding : mg "never_holding" = some (.ref a_never_holding)
  a_unlike_rounds : Addr
  d_unlike_rounds : FuncData
  F_unlike_rounds : Fun K "unlike_rounds" "unlike_rounds" s_unlike_rounds a_unlike_rounds d_unlike_rounds
  m_unlike_rounds : mg "unlike_rounds" = some (.ref a_unlike_rounds)
  a_loose_behind : Addr
  d_loose_behind : FuncData
  F_loose_behind : Fun K "loose_behind" "loose_behind" s_loose_behind a_loose_behind d_loose_behind
  m_loose_behind : mg "loose_behind" = some (.ref a_loose_behind)
  a_loose_counts : Addr
  d_loose_counts : FuncData
  F_loose_counts : Fun K "loose_counts" "loose_counts" s_loose_counts a_loose_counts d_loose_counts
  m_loose_counts : mg "loose_counts" = some (.ref a_loose_counts)
  a__law_cup : Addr
  d__law_cup : FuncData
  F__law_cup : Fun K "_law_cup" "_law_cup" s__law_cup a__law_cup d__law_cup
  m__law_cup : mg "_law_cup" = some (.ref a__law_cup)
  a__law_roll : Addr
  d__law_roll : FuncData
  F__law_roll : Fun K "_law_roll" "_law_roll" s__law_roll a__law_roll d__law_roll
  m__law_roll : mg "_law_roll" = some (.ref a__law_roll)
  a__law_some : Addr
  d__law_some : FuncData
  F__law_some : Fun K "_law_some" "_law_some" s__law_some a__law_some d__law_some
  m__law_some : mg "_law_some" = some (.ref a__law_some)
  a__law_same : Addr
  d__law_same : FuncData
  F__law_same : Fun K "_law_same" "_law_same" s__law_same a__law_same d__law_same
  m__law_same : mg "_law_same" = some (.ref a__law_same)
  a__law_signs : Addr
  d__law_signs : FuncData
  F__law_signs : Fun K "_law_signs" "_law_signs" s__law_signs a__law_signs d__law_signs
  m__law_signs : mg "_law_signs" = some (.ref a__law_signs)
  a__law_wound : Addr
  d__law_wound : FuncData
  F__law_wound : Fun K "_law_wound" "_law_wound" s__law_wound a__law_wound d__law_wound
  m__law_wound : mg "_law_wound" = some (.ref a__law_wound)
  a__law_went : Addr
  d__law_went : FuncData
  F__law_went : Fun K "_law_went" "_law_went" s__law_went a__law_went d__law_went
  m__law_went : mg "_law_went" = some (.ref a__law_went)
  a__law_words : Addr
  d__law_words : FuncData
  F__law_words : Fun K "_law_words" "_law_words" s__law_words a__law_words d__law_words
  m__law_words : mg "_law_words" = some (.ref a__law_words)
  a__law_loose : Addr
  d__law_loose : FuncData
  F__law_loose : Fun K "_law_loose" "_law_loose" s__law_loose a__law_loose d__law_loose
  m__law_loose : mg "_law_loose" = some (.ref a__law_loose)
  a__law_right : Addr
  d__law_right : FuncData
  F__law_right : Fun K "_law_right" "_law_right" s__law_right a__law_right d__law_right
  m__law_right : mg "_law_right" = some (.ref a__law_right)
  a_law : Addr
  d_law : FuncData
  F_law : Fun K "law" "law" s_law a_law d_law
  m_law : mg "law" = some (.ref a_law)
  b_abs : mg "abs" = none
  b_all : mg "all" = none
  b_bool : mg "bool" = none
  b_enumerate : mg "enumerate" = none
  b_int : mg "int" = none
  b_isinstance : mg "isinstance" = none
  b_len : mg "len" = none
  b_list : mg "list" = none
  b_range : mg "range" = none
  b_set : mg "set" = none
  b_str : mg "str" = none
  b_tuple : mg "tuple" = none
  t_HIGH : Tok
  c_HIGH : mg "HIGH" = some (.int 40 t_HIGH)
  t_LEAST : Tok
  c_LEAST : mg "LEAST" = some (.int 3 t_LEAST)
  t_LONG : Tok
  c_LONG : mg "LONG" = some (.int 8 t_LONG)
  t_SIGNS : Tok
  c_SIGNS : mg "SIGNS" = some (.str "io" t_SIGNS)
  t_STAKES : Tok
  c_STAKES : mg "STAKES" = some (.int 24 t_STAKES)
  t_WORD : Tok
  c_WORD : mg "WORD" = some (.int 12 t_WORD)
section
variable {P : Program} {w : World} {K : PySem.W.Frag} {mg : Str → Option Value} {base : Heap}
theorem b_is_whole_ (T : Txt K mg) : Binds K T.d_is_whole ["value"] [] := T.F_is_whole.binds fun _ _ _ _ _ _ us hl => match us, hl with | [_], _ => rfl
theorem b_fits_whole_ (T : Txt K mg) : Binds K T.d_fits_whole ["value", "low", "high"] [] := T.F_fits_whole.binds fun _ _ _ _ _ _ us hl => match us, hl with | [_, _, _], _ => rfl
theorem b_fits_signs_ (T : Txt K mg) : Binds K T.d_fits_signs ["value", "least", "most"] [] := T.F_fits_signs.binds fun _ _ _ _ _ _ us hl => match us, hl with | [_, _, _], _ => rfl
theorem b_fits_word_ (T : Txt K mg) : Binds K T.d_fits_word ["value"] [] := T.F_fits_word.binds fun _ _ _ _ _ _ us hl => match us, hl with | [_], _ => rfl
theorem b_need_word_ (T : Txt K mg) : Binds K T.d_need_word ["value"] [] := T.F_need_word.binds fun _ _ _ _ _ _ us hl => match us, hl with | [_], _ => rfl
theorem b_need_stakes_ (T : Txt K mg) : Binds K T.d_need_stakes ["value"] [] := T.F_need_stakes.binds fun _ _ _ _ _ _ us hl => match us, hl with | [_], _ => rfl
theorem b_wound_in_ (T : Txt K mg) : Binds K T.d_wound_in ["word", "stakes", "start"] [] := T.F_wound_in.binds fun _ _ _ _ _ _ us hl => match us, hl with | [_, _, _], _ => rfl
theorem b_columns_in_ (T : Txt K mg) : Binds K T.d_columns_in ["wall"] [] := T.F_columns_in.binds fun _ _ _ _ _ _ us hl => match us, hl with | [_], _ => rfl
theorem b_need_rounds_ (T : Txt K mg) : Binds K T.d_need_rounds ["value"] [] := T.F_need_rounds.binds fun _ _ _ _ _ _ us hl => match us, hl with | [_], _ => rfl
theorem b_need_length_ (T : Txt K mg) : Binds K T.d_need_length ["value"] [] := T.F_need_length.binds fun _ _ _ _ _ _ us hl => match us, hl with | [_], _ => rfl
theorem b_rounds_in_ (T : Txt K mg) : Binds K T.d_rounds_in ["word", "stakes", "rounds"] [] := T.F_rounds_in.binds fun _ _ _ _ _ _ us hl => match us, hl with | [_, _, _], _ => rfl
theorem b_words_in_ (T : Txt K mg) : Binds K T.d_words_in ["length"] [] := T.F_words_in.binds fun _ _ _ _ _ _ us hl => match us, hl with | [_], _ => rfl
theorem b_is_mixed_ (T : Txt K mg) : Binds K T.d_is_mixed ["signs"] [] := T.F_is_mixed.binds fun _ _ _ _ _ _ us hl => match us, hl with | [_], _ => rfl
theorem b_holds_in_ (T : Txt K mg) : Binds K T.d_holds_in ["rounds"] [] := T.F_holds_in.binds fun _ _ _ _ _ _ us hl => match us, hl with | [_], _ => rfl
theorem b_holding_in_ (T : Txt K mg) : Binds K T.d_holding_in ["stakes", "rounds", "length"] [] := T.F_holding_in.binds fun _ _ _ _ _ _ us hl => match us, hl with | [_, _, _], _ => rfl
theorem b_rounds_to_hold_ (T : Txt K mg) : Binds K T.d_rounds_to_hold ["word", "stakes"] [] := T.F_rounds_to_hold.binds fun _ _ _ _ _ _ us hl => match us, hl with | [_, _], _ => rfl
theorem b_holding_many_ (T : Txt K mg) : Binds K T.d_holding_many ["stakes", "rounds", "length"] [] := T.F_holding_many.binds fun _ _ _ _ _ _ us hl => match us, hl with | [_, _, _], _ => rfl
theorem b_first_holding_ (T : Txt K mg) : Binds K T.d_first_holding ["stakes", "rounds"] [] := T.F_first_holding.binds fun _ _ _ _ _ _ us hl => match us, hl with | [_, _], _ => rfl
theorem b_never_holding_ (T : Txt K mg) : Binds K T.d_never_holding ["stakes", "length"] [] := T.F_never_holding.binds fun _ _ _ _ _ _ us hl => match us, hl with | [_, _], _ => rfl
theorem b_unlike_rounds_ (T : Txt K mg) : Binds K T.d_unlike_rounds ["word", "stakes"] [] := T.F_unlike_rounds.binds fun _ _ _ _ _ _ us hl => match us, hl with | [_, _], _ => rfl
theorem b_loose_behind_ (T : Txt K mg) : Binds K T.d_loose_behind ["word", "stakes", "rounds"] [] := T.F_loose_behind.binds fun _ _ _ _ _ _ us hl => match us, hl with | [_, _, _], _ => rfl
theorem b_loose_counts_ (T : Txt K mg) : Binds K T.d_loose_counts ["stakes", "rounds", "length"] [] := T.F_loose_counts.binds fun _ _ _ _ _ _ us hl => match us, hl with | [_, _, _], _ => rfl
theorem b__law_cup_ (T : Txt K mg) : Binds K T.d__law_cup ["script"] [] := T.F__law_cup.binds fun _ _ _ _ _ _ us hl => match us, hl with | [_], _ => rfl
theorem b__law_roll_ (T : Txt K mg) : Binds K T.d__law_roll ["cup", "many"] [] := T.F__law_roll.binds fun _ _ _ _ _ _ us hl => match us, hl with | [_, _], _ => rfl
theorem b__law_some_ (T : Txt K mg) : Binds K T.d__law_some ["cup", "things"] [] := T.F__law_some.binds fun _ _ _ _ _ _ us hl => match us, hl with | [_, _], _ => rfl
theorem b__law_same_ (T : Txt K mg) : Binds K T.d__law_same ["told", "due"] [] := T.F__law_same.binds fun _ _ _ _ _ _ us hl => match us, hl with | [_, _], _ => rfl
theorem b__law_signs_ (T : Txt K mg) : Binds K T.d__law_signs ["cup", "many"] [] := T.F__law_signs.binds fun _ _ _ _ _ _ us hl => match us, hl with | [_, _], _ => rfl
theorem b__law_wound_ (T : Txt K mg) : Binds K T.d__law_wound ["word", "stakes", "start"] [] := T.F__law_wound.binds fun _ _ _ _ _ _ us hl => match us, hl with | [_, _, _], _ => rfl
theorem b__law_went_ (T : Txt K mg) : Binds K T.d__law_went ["word", "stakes", "rounds"] [] := T.F__law_went.binds fun _ _ _ _ _ _ us hl => match us, hl with | [_, _, _], _ => rfl
theorem b__law_words_ (T : Txt K mg) : Binds K T.d__law_words ["length"] [] := T.F__law_words.binds fun _ _ _ _ _ _ us hl => match us, hl with | [_], _ => rfl
theorem b__law_loose_ (T : Txt K mg) : Binds K T.d__law_loose ["rounds"] [] := T.F__law_loose.binds fun _ _ _ _ _ _ us hl => match us, hl with | [_], _ => rfl
theorem b__law_right_ (T : Txt K mg) : Binds K T.d__law_right ["cup"] [] := T.F__law_right.binds fun _ _ _ _ _ _ us hl => match us, hl with | [_], _ => rfl
theorem b_law_ (T : Txt K mg) : Binds K T.d_law ["script"] [] := T.F_law.binds fun _ _ _ _ _ _ us hl => match us, hl with | [_], _ => rfl
theorem sc_is_whole : FnScope ["value"] ["value"] (defScope s_is_whole) := ⟨rfl, rfl, rfl, by decide +kernel, rfl, by decide +kernel, by decide +kernel⟩
theorem ok_is_whole (T : Txt K mg) : FnOk P w K mg base CX0 1 T.a_is_whole T.d_is_whole ["value"] (spOf K 1 false m_is_whole) := by
  have sc := sc_is_whole
  exact ok_def (z := ⟨none, [], []⟩) T.F_is_whole sc_is_whole (fun cdv A outer s H E hr =>
    (pbd_one (psd_ret (pd_and (pd_isi .int (pd_var 0) T.b_isinstance T.b_int (by decide +kernel)) (pd_one (pd_not (pd_isi .bool (pd_var 0) T.b_isinstance T.b_bool (by decide +kernel))))))))
theorem sc_fits_whole : FnScope ["value", "low", "high"] ["value", "low", "high"] (defScope s_fits_whole) := ⟨rfl, rfl, rfl, by decide +kernel, rfl, by decide +kernel, by decide +kernel⟩
theorem ok_fits_whole (T : Txt K mg) : FnOk P w K mg base CX0 2 T.a_fits_whole T.d_fits_whole ["value", "low", "high"] (spOf K 3 false m_fits_whole) := by
  have sc := sc_fits_whole
  exact ok_def (z := ⟨none, [], []⟩) T.F_fits_whole sc_fits_whole (fun cdv A outer s H E hr =>
    (pbd_one (psd_ret (pd_and (pd_call (ok_is_whole T) (hr.mono (by decide)) T.m_is_whole T.F_is_whole.kp (b_is_whole_ T) (pad_cons (pd_var 0) pad_nil) (alen_cons alen_nil)) (pd_one (pd_chain (o2_le hr.units) (o2_le hr.units) (pd_var 1) (pd_var 0) (pd_var 2)))))))
theorem sc_fits_signs : FnScope ["value", "least", "most", "sign"] ["value", "least", "most"] (defScope s_fits_signs) := ⟨rfl, rfl, rfl, by decide +kernel, rfl, by decide +kernel, by decide +kernel⟩
theorem ok_fits_signs (T : Txt K mg) : FnOk P w K mg base CX0 1 T.a_fits_signs T.d_fits_signs ["value", "least", "most"] (spOf K 3 false m_fits_signs) := by
  have sc := sc_fits_signs
  exact ok_def (z := ⟨none, [], []⟩) T.F_fits_signs sc_fits_signs (fun cdv A outer s H E hr =>
    (pbd_one (psd_ret (pd_and (pd_isi .str (pd_var 0) T.b_isinstance T.b_str (by decide +kernel)) (pd_and (pd_chain (o2_le hr.units) (o2_le hr.units) (pd_var 1) (pd_b1 b_len (pd_var 0) T.b_len (by decide +kernel)) (pd_var 2)) (pd_one (pd_b1 (b_all rfl) (pd_comp (own := [("sign", 3)]) rfl sc.nd (blkOk_by (N := ["value", "least", "most", "sign"]) (sc := defScope s_fits_signs) (by decide +kernel)) (pid_itemsS (pd_var 0)) (fun _ _ _ _ _ => (pgd_name (i := 3) sc.nd)) (fun _ _ _ _ _ => ptds_nil) (fun _ _ _ _ _ => (pd_cmp (o2_in (u65 hr)) (pd_var 3) (pd_c (v := .str ⟨([105, 111] : List Nat).toArray⟩) (pe_glob rfl T.c_SIGNS ⟨_, rfl⟩) fun _ => .str _ (by decide +kernel)))) (by decide) (by decide)) T.b_all (by decide +kernel))))))))
theorem sc_fits_word : FnScope ["value"] ["value"] (defScope s_fits_word) := ⟨rfl, rfl, rfl, by decide +kernel, rfl, by decide +kernel, by decide +kernel⟩
theorem ok_fits_word (T : Txt K mg) : FnOk P w K mg base CX0 2 T.a_fits_word T.d_fits_word ["value"] (spOf K 1 false m_fits_word) := by
  have sc := sc_fits_word
  exact ok_def (z := ⟨none, [], []⟩) T.F_fits_word sc_fits_word (fun cdv A outer s H E hr =>
    (pbd_one (psd_ret (pd_call (ok_fits_signs T) (hr.mono (by decide)) T.m_fits_signs T.F_fits_signs.kp (b_fits_signs_ T) (pad_cons (pd_var 0) (pad_cons pd_int (pad_cons (pd_c (v := .int 12) (pe_glob rfl T.c_WORD ⟨_, rfl⟩) fun _ => .int _) pad_nil))) (alen_cons (alen_cons (alen_cons alen_nil)))))))
theorem sc_need_word : FnScope ["value"] ["value"] (defScope s_need_word) := ⟨rfl, rfl, rfl, by decide +kernel, rfl, by decide +kernel, by decide +kernel⟩
theorem ok_need_word (T : Txt K mg) : FnOk P w K mg base CX0 3 T.a_need_word T.d_need_word ["value"] (spOf K 1 false m_need_word) := by
  have sc := sc_need_word
  exact ok_def (z := ⟨none, [], []⟩) T.F_need_word sc_need_word (fun cdv A outer s H E hr =>
    (pbd_one (psd_if (ptd_not (ptd_v (pd_call (ok_fits_word T) (hr.mono (by decide)) T.m_fits_word T.F_fits_word.kp (b_fits_word_ T) (pad_cons (pd_var 0) pad_nil) (alen_cons alen_nil)))) (pbd_one psd_never) pbd_nil)))
theorem sc_need_stakes : FnScope ["value"] ["value"] (defScope s_need_stakes) := ⟨rfl, rfl, rfl, by decide +kernel, rfl, by decide +kernel, by decide +kernel⟩
theorem ok_need_stakes (T : Txt K mg) : FnOk P w K mg base CX0 3 T.a_need_stakes T.d_need_stakes ["value"] (spOf K 1 false m_need_stakes) := by
  have sc := sc_need_stakes
  exact ok_def (z := ⟨none, [], []⟩) T.F_need_stakes sc_need_stakes (fun cdv A outer s H E hr =>
    (pbd_one (psd_if (ptd_not (ptd_v (pd_call (ok_fits_whole T) (hr.mono (by decide)) T.m_fits_whole T.F_fits_whole.kp (b_fits_whole_ T) (pad_cons (pd_var 0) (pad_cons (pd_c (v := .int 3) (pe_glob rfl T.c_LEAST ⟨_, rfl⟩) fun _ => .int _) (pad_cons (pd_c (v := .int 24) (pe_glob rfl T.c_STAKES ⟨_, rfl⟩) fun _ => .int _) pad_nil))) (alen_cons (alen_cons (alen_cons alen_nil)))))) (pbd_one psd_never) pbd_nil)))
theorem sc_wound_in : FnScope ["word", "stakes", "start", "at"] ["word", "stakes", "start"] (defScope s_wound_in) := ⟨rfl, rfl, rfl, by decide +kernel, rfl, by decide +kernel, by decide +kernel⟩
theorem ok_wound_in (T : Txt K mg) : FnOk P w K mg base CX0 1 T.a_wound_in T.d_wound_in ["word", "stakes", "start"] (spOf K 3 false m_wound_in) := by
  have sc := sc_wound_in
  exact ok_def (z := ⟨none, [], []⟩) T.F_wound_in sc_wound_in (fun cdv A outer s H E hr =>
    (pbd_one (psd_ret (pd_m1 PySem.F.plainAttrs_str PySem.F.slot_str_join PySem.F.type_str_join m_join ty_join pd_str (pd_comp (own := [("at", 3)]) rfl sc.nd (blkOk_by (N := ["word", "stakes", "start", "at"]) (sc := defScope s_wound_in) (by decide +kernel)) (pid_range1 (pd_var 1) T.b_range) (fun _ _ _ _ _ => (pgd_name (i := 3) sc.nd)) (fun _ _ _ _ _ => ptds_nil) (fun _ _ _ _ _ => (pd_ix (pd_var 0) (pd_op o2_mod (pd_op o2_add (pd_var 2) (pd_var 3)) (pd_b1 b_len (pd_var 0) T.b_len (by decide +kernel))))) (by decide) (by decide))))))
theorem sc_columns_in : FnScope ["wall", "at", "one"] ["wall"] (defScope s_columns_in) := ⟨rfl, rfl, rfl, by decide +kernel, rfl, by decide +kernel, by decide +kernel⟩
theorem ok_columns_in (T : Txt K mg) : FnOk P w K mg base CX0 1 T.a_columns_in T.d_columns_in ["wall"] (spOf K 1 false m_columns_in) := by
  have sc := sc_columns_in
  exact ok_def (z := ⟨none, [], []⟩) T.F_columns_in sc_columns_in (fun cdv A outer s H E hr =>
    (pbd_one (psd_ret (pd_comp (own := [("at", 1)]) rfl sc.nd (blkOk_by (N := ["wall", "at", "one"]) (sc := defScope s_columns_in) (by decide +kernel)) (pid_range1 (pd_b1 b_len (pd_ix (pd_var 0) pd_int) T.b_len (by decide +kernel)) T.b_range) (fun _ _ _ _ _ => (pgd_name (i := 1) sc.nd)) (fun _ _ _ _ _ => ptds_nil) (fun _ _ _ _ _ => (pd_m1 PySem.F.plainAttrs_str PySem.F.slot_str_join PySem.F.type_str_join m_join ty_join pd_str (pd_comp (own := [("one", 2)]) rfl sc.nd (blkOk_in (N := ["wall", "at", "one"]) (sc := defScope s_columns_in) (by decide +kernel)) (pid_itemsS (pd_var 0)) (fun _ _ _ _ _ => (pgd_name (i := 2) sc.nd)) (fun _ _ _ _ _ => ptds_nil) (fun _ _ _ _ _ => (pd_ix (pd_var 2) (pd_var 1))) (by decide) (by decide)))) (by decide) (by decide)))))
theorem sc_need_rounds : FnScope ["value"] ["value"] (defScope s_need_rounds) := ⟨rfl, rfl, rfl, by decide +kernel, rfl, by decide +kernel, by decide +kernel⟩
theorem ok_need_rounds (T : Txt K mg) : FnOk P w K mg base CX0 3 T.a_need_rounds T.d_need_rounds ["value"] (spOf K 1 false m_need_rounds) := by
  have sc := sc_need_rounds
  exact ok_def (z := ⟨none, [], []⟩) T.F_need_rounds sc_need_rounds (fun cdv A outer s H E hr =>
    (pbd_one (psd_if (ptd_not (ptd_v (pd_call (ok_fits_whole T) (hr.mono (by decide)) T.m_fits_whole T.F_fits_whole.kp (b_fits_whole_ T) (pad_cons (pd_var 0) (pad_cons pd_int (pad_cons (pd_c (v := .int 40) (pe_glob rfl T.c_HIGH ⟨_, rfl⟩) fun _ => .int _) pad_nil))) (alen_cons (alen_cons (alen_cons alen_nil)))))) (pbd_one psd_never) pbd_nil)))
theorem sc_need_length : FnScope ["value"] ["value"] (defScope s_need_length) := ⟨rfl, rfl, rfl, by decide +kernel, rfl, by decide +kernel, by decide +kernel⟩
theorem ok_need_length (T : Txt K mg) : FnOk P w K mg base CX0 3 T.a_need_length T.d_need_length ["value"] (spOf K 1 false m_need_length) := by
  have sc := sc_need_length
  exact ok_def (z := ⟨none, [], []⟩) T.F_need_length sc_need_length (fun cdv A outer s H E hr =>
    (pbd_one (psd_if (ptd_not (ptd_v (pd_call (ok_fits_whole T) (hr.mono (by decide)) T.m_fits_whole T.F_fits_whole.kp (b_fits_whole_ T) (pad_cons (pd_var 0) (pad_cons pd_int (pad_cons (pd_c (v := .int 8) (pe_glob rfl T.c_LONG ⟨_, rfl⟩) fun _ => .int _) pad_nil))) (alen_cons (alen_cons (alen_cons alen_nil)))))) (pbd_one psd_never) pbd_nil)))
theorem sc_rounds_in : FnScope ["word", "stakes", "rounds", "at"] ["word", "stakes", "rounds"] (defScope s_rounds_in) := ⟨rfl, rfl, rfl, by decide +kernel, rfl, by decide +kernel, by decide +kernel⟩
theorem ok_rounds_in (T : Txt K mg) : FnOk P w K mg base CX0 2 T.a_rounds_in T.d_rounds_in ["word", "stakes", "rounds"] (spOf K 3 false m_rounds_in) := by
  have sc := sc_rounds_in
  exact ok_def (z := ⟨none, [], []⟩) T.F_rounds_in sc_rounds_in (fun cdv A outer s H E hr =>
    (pbd_one (psd_ret (pd_t1 (b_tupleA rfl) (pd_comp (own := [("at", 3)]) rfl sc.nd (blkOk_by (N := ["word", "stakes", "rounds", "at"]) (sc := defScope s_rounds_in) (by decide +kernel)) (pid_range1 (pd_var 2) T.b_range) (fun _ _ _ _ _ => (pgd_name (i := 3) sc.nd)) (fun _ _ _ _ _ => ptds_nil) (fun _ _ _ _ _ => (pd_call (ok_wound_in T) (hr.mono (by decide)) T.m_wound_in T.F_wound_in.kp (b_wound_in_ T) (pad_cons (pd_var 0) (pad_cons (pd_var 1) (pad_cons (pd_op o2_mod (pd_op o2_mul (pd_var 3) (pd_var 1)) (pd_b1 b_len (pd_var 0) T.b_len (by decide +kernel))) pad_nil))) (alen_cons (alen_cons (alen_cons alen_nil))))) (by decide) (by decide)) T.b_tuple (by decide +kernel)))))
theorem sc_words_in : FnScope ["length", "found", "turn", "word", "sign"] ["length"] (defScope s_words_in) := ⟨rfl, rfl, rfl, by decide +kernel, rfl, by decide +kernel, by decide +kernel⟩
theorem ok_words_in (T : Txt K mg) : FnOk P w K mg base CX0 1 T.a_words_in T.d_words_in ["length"] (spOf K 1 false m_words_in) := by
  have sc := sc_words_in
  exact ok_def (z := ⟨none, [], []⟩) T.F_words_in sc_words_in (fun cdv A outer s H E hr =>
    (pbd_cons (psd_set (i := 1) sc.nd (PD.frz (PD.nfr (pd_lst (pad_cons pd_str pad_nil)))))
    (pbd_cons (psd_for PassesOwn.never rfl (pid_range1 (pd_var 0) T.b_range) (pgd_name (i := 2) sc.nd) (pbd_one (psd_setLc2 (i := 1) (own := [("word", 3), ("sign", 4)]) (vs1 := [4]) rfl sc.nd (blkOk_by (N := ["length", "found", "turn", "word", "sign"]) (sc := defScope s_words_in) (by decide +kernel)) (pid_itemsS (pd_var 1)) (fun _ _ _ _ _ => (pgd_name (i := 3) sc.nd)) (fun _ _ _ _ _ => ptds_nil) (fun _ _ _ _ _ => (pid_items (pd_c (v := .str ⟨([105, 111] : List Nat).toArray⟩) (pe_glob rfl T.c_SIGNS ⟨_, rfl⟩) fun _ => .str _ (by decide +kernel)))) (fun _ _ _ _ _ => (pgd_name (i := 4) sc.nd)) (fun _ _ _ _ _ => ptds_nil) (fun _ _ _ _ _ => (PD.frz (pd_op o2_add (pd_var 3) (pd_var 4)))) (by decide) (by decide) (by decide) (by decide) (by decide))))
    (pbd_one (psd_ret (pd_var 1))))))
theorem sc_is_mixed : FnScope ["signs"] ["signs"] (defScope s_is_mixed) := ⟨rfl, rfl, rfl, by decide +kernel, rfl, by decide +kernel, by decide +kernel⟩
theorem ok_is_mixed (T : Txt K mg) : FnOk P w K mg base CX0 1 T.a_is_mixed T.d_is_mixed ["signs"] (spOf K 1 false m_is_mixed) := by
  have sc := sc_is_mixed
  exact ok_def (z := ⟨none, [], []⟩) T.F_is_mixed sc_is_mixed (fun cdv A outer s H E hr =>
    (pbd_one (psd_ret (pd_and (pd_cmp (o2_in (u65 hr)) pd_str (pd_var 0)) (pd_one (pd_cmp (o2_in (u65 hr)) pd_str (pd_var 0)))))))
theorem sc_holds_in : FnScope ["rounds", "own"] ["rounds"] (defScope s_holds_in) := ⟨rfl, rfl, rfl, by decide +kernel, rfl, by decide +kernel, by decide +kernel⟩
theorem ok_holds_in (T : Txt K mg) : FnOk P w K mg base CX0 2 T.a_holds_in T.d_holds_in ["rounds"] (spOf K 1 false m_holds_in) := by
  have sc := sc_holds_in
  exact ok_def (z := ⟨none, [], []⟩) T.F_holds_in sc_holds_in (fun cdv A outer s H E hr =>
    (pbd_one (psd_ret (pd_b1 (b_all rfl) (pd_comp (own := [("own", 1)]) rfl sc.nd (blkOk_by (N := ["rounds", "own"]) (sc := defScope s_holds_in) (by decide +kernel)) (pid_itemsS (pd_call (ok_columns_in T) (hr.mono (by decide)) T.m_columns_in T.F_columns_in.kp (b_columns_in_ T) (pad_cons (pd_var 0) pad_nil) (alen_cons alen_nil))) (fun _ _ _ _ _ => (pgd_name (i := 1) sc.nd)) (fun _ _ _ _ _ => ptds_nil) (fun _ _ _ _ _ => (pd_call (ok_is_mixed T) (hr.mono (by decide)) T.m_is_mixed T.F_is_mixed.kp (b_is_mixed_ T) (pad_cons (pd_var 1) pad_nil) (alen_cons alen_nil))) (by decide) (by decide)) T.b_all (by decide +kernel)))))
theorem sc_holding_in : FnScope ["stakes", "rounds", "length", "word"] ["stakes", "rounds", "length"] (defScope s_holding_in) := ⟨rfl, rfl, rfl, by decide +kernel, rfl, by decide +kernel, by decide +kernel⟩
theorem ok_holding_in (T : Txt K mg) : FnOk P w K mg base CX0 3 T.a_holding_in T.d_holding_in ["stakes", "rounds", "length"] (spOf K 3 false m_holding_in) := by
  have sc := sc_holding_in
  exact ok_def (z := ⟨none, [], []⟩) T.F_holding_in sc_holding_in (fun cdv A outer s H E hr =>
    (pbd_one (psd_ret (pd_comp (own := [("word", 3)]) rfl sc.nd (blkOk_by (N := ["stakes", "rounds", "length", "word"]) (sc := defScope s_holding_in) (by decide +kernel)) (pid_itemsS (pd_call (ok_words_in T) (hr.mono (by decide)) T.m_words_in T.F_words_in.kp (b_words_in_ T) (pad_cons (pd_var 2) pad_nil) (alen_cons alen_nil))) (fun _ _ _ _ _ => (pgd_name (i := 3) sc.nd)) (fun _ _ _ _ _ => (ptds_one (ptd_v (pd_call (ok_holds_in T) (hr.mono (by decide)) T.m_holds_in T.F_holds_in.kp (b_holds_in_ T) (pad_cons (pd_call (ok_rounds_in T) (hr.mono (by decide)) T.m_rounds_in T.F_rounds_in.kp (b_rounds_in_ T) (pad_cons (pd_var 3) (pad_cons (pd_var 0) (pad_cons (pd_var 1) pad_nil))) (alen_cons (alen_cons (alen_cons alen_nil)))) pad_nil) (alen_cons alen_nil))))) (fun _ _ _ _ _ => (pd_var 3)) (by decide) (by decide)))))
theorem sc_rounds_to_hold : FnScope ["word", "stakes", "rounds"] ["word", "stakes"] (defScope s_rounds_to_hold) := ⟨rfl, rfl, rfl, by decide +kernel, rfl, by decide +kernel, by decide +kernel⟩
theorem ok_rounds_to_hold (T : Txt K mg) : FnOk P w K mg base CX0 4 T.a_rounds_to_hold T.d_rounds_to_hold ["word", "stakes"] (spOf K 2 false m_rounds_to_hold) := by
  have sc := sc_rounds_to_hold
  exact ok_def (z := ⟨none, [], []⟩) T.F_rounds_to_hold sc_rounds_to_hold (fun cdv A outer s H E hr =>
    (pbd_cons (psd_expr (pd_call (ok_need_word T) (hr.mono (by decide)) T.m_need_word T.F_need_word.kp (b_need_word_ T) (pad_cons (pd_var 0) pad_nil) (alen_cons alen_nil)))
    (pbd_cons (psd_expr (pd_call (ok_need_stakes T) (hr.mono (by decide)) T.m_need_stakes T.F_need_stakes.kp (b_need_stakes_ T) (pad_cons (pd_var 1) pad_nil) (alen_cons alen_nil)))
    (pbd_cons (psd_for PassesOwn.never rfl (pid_range2 pd_int (pd_op o2_add (pd_b1 b_len (pd_var 0) T.b_len (by decide +kernel)) pd_int) T.b_range) (pgd_name (i := 2) sc.nd) (pbd_one (psd_if (ptd_v (pd_call (ok_holds_in T) (hr.mono (by decide)) T.m_holds_in T.F_holds_in.kp (b_holds_in_ T) (pad_cons (pd_call (ok_rounds_in T) (hr.mono (by decide)) T.m_rounds_in T.F_rounds_in.kp (b_rounds_in_ T) (pad_cons (pd_var 0) (pad_cons (pd_var 1) (pad_cons (pd_var 2) pad_nil))) (alen_cons (alen_cons (alen_cons alen_nil)))) pad_nil) (alen_cons alen_nil))) (pbd_one (psd_ret (pd_var 2))) pbd_nil)))
    (pbd_one (psd_ret pd_non))))))
theorem sc_holding_many : FnScope ["stakes", "rounds", "length"] ["stakes", "rounds", "length"] (defScope s_holding_many) := ⟨rfl, rfl, rfl, by decide +kernel, rfl, by decide +kernel, by decide +kernel⟩
theorem ok_holding_many (T : Txt K mg) : FnOk P w K mg base CX0 4 T.a_holding_many T.d_holding_many ["stakes", "rounds", "length"] (spOf K 3 false m_holding_many) := by
  have sc := sc_holding_many
  exact ok_def (z := ⟨none, [], []⟩) T.F_holding_many sc_holding_many (fun cdv A outer s H E hr =>
    (pbd_cons (psd_expr (pd_call (ok_need_stakes T) (hr.mono (by decide)) T.m_need_stakes T.F_need_stakes.kp (b_need_stakes_ T) (pad_cons (pd_var 0) pad_nil) (alen_cons alen_nil)))
    (pbd_cons (psd_expr (pd_call (ok_need_rounds T) (hr.mono (by decide)) T.m_need_rounds T.F_need_rounds.kp (b_need_rounds_ T) (pad_cons (pd_var 1) pad_nil) (alen_cons alen_nil)))
    (pbd_cons (psd_expr (pd_call (ok_need_length T) (hr.mono (by decide)) T.m_need_length T.F_need_length.kp (b_need_length_ T) (pad_cons (pd_var 2) pad_nil) (alen_cons alen_nil)))
    (pbd_one (psd_ret (pd_b1 b_len (pd_call (ok_holding_in T) (hr.mono (by decide)) T.m_holding_in T.F_holding_in.kp (b_holding_in_ T) (pad_cons (pd_var 0) (pad_cons (pd_var 1) (pad_cons (pd_var 2) pad_nil))) (alen_cons (alen_cons (alen_cons alen_nil)))) T.b_len (by decide +kernel))))))))
theorem sc_first_holding : FnScope ["stakes", "rounds", "length", "found"] ["stakes", "rounds"] (defScope s_first_holding) := ⟨rfl, rfl, rfl, by decide +kernel, rfl, by decide +kernel, by decide +kernel⟩
theorem ok_first_holding (T : Txt K mg) : FnOk P w K mg base CX0 4 T.a_first_holding T.d_first_holding ["stakes", "rounds"] (spOf K 2 false m_first_holding) := by
  have sc := sc_first_holding
  exact ok_def (z := ⟨none, [], []⟩) T.F_first_holding sc_first_holding (fun cdv A outer s H E hr =>
    (pbd_cons (psd_expr (pd_call (ok_need_stakes T) (hr.mono (by decide)) T.m_need_stakes T.F_need_stakes.kp (b_need_stakes_ T) (pad_cons (pd_var 0) pad_nil) (alen_cons alen_nil)))
    (pbd_cons (psd_expr (pd_call (ok_need_rounds T) (hr.mono (by decide)) T.m_need_rounds T.F_need_rounds.kp (b_need_rounds_ T) (pad_cons (pd_var 1) pad_nil) (alen_cons alen_nil)))
    (pbd_cons (psd_for PassesOwn.never rfl (pid_range2 pd_int (pd_op o2_add (pd_c (v := .int 8) (pe_glob rfl T.c_LONG ⟨_, rfl⟩) fun _ => .int _) pd_int) T.b_range) (pgd_name (i := 2) sc.nd) (pbd_cons (psd_set (i := 3) sc.nd (pd_call (ok_holding_in T) (hr.mono (by decide)) T.m_holding_in T.F_holding_in.kp (b_holding_in_ T) (pad_cons (pd_var 0) (pad_cons (pd_var 1) (pad_cons (pd_var 2) pad_nil))) (alen_cons (alen_cons (alen_cons alen_nil)))))
    (pbd_one (psd_if (ptd_cmp (o2_ne hr.units) (pd_var 3) (pd_lst pad_nil)) (pbd_one (psd_ret (pd_ix (pd_var 3) pd_int))) pbd_nil))))
    (pbd_one (psd_ret pd_non))))))
theorem sc_never_holding : FnScope ["stakes", "length", "word"] ["stakes", "length"] (defScope s_never_holding) := ⟨rfl, rfl, rfl, by decide +kernel, rfl, by decide +kernel, by decide +kernel⟩
theorem ok_never_holding (T : Txt K mg) : FnOk P w K mg base CX0 4 T.a_never_holding T.d_never_holding ["stakes", "length"] (spOf K 2 false m_never_holding) := by
  have sc := sc_never_holding
  exact ok_def (z := ⟨none, [], []⟩) T.F_never_holding sc_never_holding (fun cdv A outer s H E hr =>
    (pbd_cons (psd_expr (pd_call (ok_need_stakes T) (hr.mono (by decide)) T.m_need_stakes T.F_need_stakes.kp (b_need_stakes_ T) (pad_cons (pd_var 0) pad_nil) (alen_cons alen_nil)))
    (pbd_cons (psd_expr (pd_call (ok_need_length T) (hr.mono (by decide)) T.m_need_length T.F_need_length.kp (b_need_length_ T) (pad_cons (pd_var 1) pad_nil) (alen_cons alen_nil)))
    (pbd_one (psd_ret (pd_b1 b_len (pd_comp (own := [("word", 2)]) rfl sc.nd (blkOk_by (N := ["stakes", "length", "word"]) (sc := defScope s_never_holding) (by decide +kernel)) (pid_itemsS (pd_call (ok_words_in T) (hr.mono (by decide)) T.m_words_in T.F_words_in.kp (b_words_in_ T) (pad_cons (pd_var 1) pad_nil) (alen_cons alen_nil))) (fun _ _ _ _ _ => (pgd_name (i := 2) sc.nd)) (fun _ _ _ _ _ => (ptds_one (ptd_not (ptd_v (pd_call (ok_holds_in T) (hr.mono (by decide)) T.m_holds_in T.F_holds_in.kp (b_holds_in_ T) (pad_cons (pd_call (ok_rounds_in T) (hr.mono (by decide)) T.m_rounds_in T.F_rounds_in.kp (b_rounds_in_ T) (pad_cons (pd_var 2) (pad_cons (pd_var 0) (pad_cons (pd_var 1) pad_nil))) (alen_cons (alen_cons (alen_cons alen_nil)))) pad_nil) (alen_cons alen_nil)))))) (fun _ _ _ _ _ => (pd_var 2)) (by decide) (by decide)) T.b_len (by decide +kernel)))))))
theorem sc_unlike_rounds : FnScope ["word", "stakes"] ["word", "stakes"] (defScope s_unlike_rounds) := ⟨rfl, rfl, rfl, by decide +kernel, rfl, by decide +kernel, by decide +kernel⟩
theorem ok_unlike_rounds (T : Txt K mg) : FnOk P w K mg base CX0 4 T.a_unlike_rounds T.d_unlike_rounds ["word", "stakes"] (spOf K 2 false m_unlike_rounds) := by
  have sc := sc_unlike_rounds
  exact ok_def (z := ⟨none, [], []⟩) T.F_unlike_rounds sc_unlike_rounds (fun cdv A outer s H E hr =>
    (pbd_cons (psd_expr (pd_call (ok_need_word T) (hr.mono (by decide)) T.m_need_word T.F_need_word.kp (b_need_word_ T) (pad_cons (pd_var 0) pad_nil) (alen_cons alen_nil)))
    (pbd_cons (psd_expr (pd_call (ok_need_stakes T) (hr.mono (by decide)) T.m_need_stakes T.F_need_stakes.kp (b_need_stakes_ T) (pad_cons (pd_var 1) pad_nil) (alen_cons alen_nil)))
    (pbd_one (psd_ret (pd_lenSetA rfl (pd_call (ok_rounds_in T) (hr.mono (by decide)) T.m_rounds_in T.F_rounds_in.kp (b_rounds_in_ T) (pad_cons (pd_var 0) (pad_cons (pd_var 1) (pad_cons (pd_b1 b_len (pd_var 0) T.b_len (by decide +kernel)) pad_nil))) (alen_cons (alen_cons (alen_cons alen_nil)))) T.b_len T.b_set))))))
theorem sc_loose_behind : FnScope ["word", "stakes", "rounds", "rows", "stake", "own"] ["word", "stakes", "rounds"] (defScope s_loose_behind) := ⟨rfl, rfl, rfl, by decide +kernel, rfl, by decide +kernel, by decide +kernel⟩
theorem ok_loose_behind (T : Txt K mg) : FnOk P w K mg base CX0 4 T.a_loose_behind T.d_loose_behind ["word", "stakes", "rounds"] (spOf K 3 false m_loose_behind) := by
  have sc := sc_loose_behind
  exact ok_def (z := ⟨none, [], []⟩) T.F_loose_behind sc_loose_behind (fun cdv A outer s H E hr =>
    (pbd_cons (psd_expr (pd_call (ok_need_word T) (hr.mono (by decide)) T.m_need_word T.F_need_word.kp (b_need_word_ T) (pad_cons (pd_var 0) pad_nil) (alen_cons alen_nil)))
    (pbd_cons (psd_expr (pd_call (ok_need_stakes T) (hr.mono (by decide)) T.m_need_stakes T.F_need_stakes.kp (b_need_stakes_ T) (pad_cons (pd_var 1) pad_nil) (alen_cons alen_nil)))
    (pbd_cons (psd_expr (pd_call (ok_need_rounds T) (hr.mono (by decide)) T.m_need_rounds T.F_need_rounds.kp (b_need_rounds_ T) (pad_cons (pd_var 2) pad_nil) (alen_cons alen_nil)))
    (pbd_cons (psd_set (i := 3) sc.nd (pd_call (ok_columns_in T) (hr.mono (by decide)) T.m_columns_in T.F_columns_in.kp (b_columns_in_ T) (pad_cons (pd_call (ok_rounds_in T) (hr.mono (by decide)) T.m_rounds_in T.F_rounds_in.kp (b_rounds_in_ T) (pad_cons (pd_var 0) (pad_cons (pd_var 1) (pad_cons (pd_var 2) pad_nil))) (alen_cons (alen_cons (alen_cons alen_nil)))) pad_nil) (alen_cons alen_nil)))
    (pbd_one (psd_ret (pd_t1 (b_tupleA rfl) (pd_comp (own := [("stake", 4), ("own", 5)]) rfl sc.nd (blkOk_by (N := ["word", "stakes", "rounds", "rows", "stake", "own"]) (sc := defScope s_loose_behind) (by decide +kernel)) (pid_enumS (pd_var 3) T.b_enumerate) (fun _ _ _ _ _ => (pgd_tup rfl (pgsd_cons (pgd_name (i := 4) sc.nd) (pgsd_cons (pgd_name (i := 5) sc.nd) pgsd_nil)))) (fun _ _ _ _ _ => (ptds_one (ptd_not (ptd_v (pd_call (ok_is_mixed T) (hr.mono (by decide)) T.m_is_mixed T.F_is_mixed.kp (b_is_mixed_ T) (pad_cons (pd_var 5) pad_nil) (alen_cons alen_nil)))))) (fun _ _ _ _ _ => (pd_var 4)) (by decide) (by decide)) T.b_tuple (by decide +kernel)))))))))
theorem sc_loose_counts : FnScope ["stakes", "rounds", "length", "found", "word", "rows", "own"] ["stakes", "rounds", "length"] (defScope s_loose_counts) := ⟨rfl, rfl, rfl, by decide +kernel, rfl, by decide +kernel, by decide +kernel⟩
theorem ok_loose_counts (T : Txt K mg) : FnOk P w K mg base CX0 4 T.a_loose_counts T.d_loose_counts ["stakes", "rounds", "length"] (spOf K 3 false m_loose_counts) := by
  have sc := sc_loose_counts
  exact ok_def (z := ⟨none, [3], []⟩) T.F_loose_counts sc_loose_counts (fun cdv A outer s H E hr =>
    (pbd_cons (psd_expr (pd_call (ok_need_stakes T) (hr.mono (by decide)) T.m_need_stakes T.F_need_stakes.kp (b_need_stakes_ T) (pad_cons (pd_var 0) pad_nil) (alen_cons alen_nil)))
    (pbd_cons (psd_expr (pd_call (ok_need_rounds T) (hr.mono (by decide)) T.m_need_rounds T.F_need_rounds.kp (b_need_rounds_ T) (pad_cons (pd_var 1) pad_nil) (alen_cons alen_nil)))
    (pbd_cons (psd_expr (pd_call (ok_need_length T) (hr.mono (by decide)) T.m_need_length T.F_need_length.kp (b_need_length_ T) (pad_cons (pd_var 2) pad_nil) (alen_cons alen_nil)))
    (pbd_cons (psd_setO (i := 3) sc.nd (pd_op o2_mulL (pd_lst (pad_cons pd_int pad_nil)) (pd_op o2_add (pd_var 0) pd_int)))
    (pbd_cons (psd_for PassesOwn.never rfl (pid_items (pd_call (ok_words_in T) (hr.mono (by decide)) T.m_words_in T.F_words_in.kp (b_words_in_ T) (pad_cons (pd_var 2) pad_nil) (alen_cons alen_nil))) (pgd_name (i := 4) sc.nd) (pbd_cons (psd_set (i := 5) sc.nd (pd_call (ok_columns_in T) (hr.mono (by decide)) T.m_columns_in T.F_columns_in.kp (b_columns_in_ T) (pad_cons (pd_call (ok_rounds_in T) (hr.mono (by decide)) T.m_rounds_in T.F_rounds_in.kp (b_rounds_in_ T) (pad_cons (pd_var 4) (pad_cons (pd_var 0) (pad_cons (pd_var 1) pad_nil))) (alen_cons (alen_cons (alen_cons alen_nil)))) pad_nil) (alen_cons alen_nil)))
    (pbd_one (psd_augI (i := 3) (pd_b1 b_len (pd_comp (own := [("own", 6)]) rfl sc.nd (blkOk_by (N := ["stakes", "rounds", "length", "found", "word", "rows", "own"]) (sc := defScope s_loose_counts) (by decide +kernel)) (pid_itemsS (pd_var 5)) (fun _ _ _ _ _ => (pgd_name (i := 6) sc.nd)) (fun _ _ _ _ _ => (ptds_one (ptd_not (ptd_v (pd_call (ok_is_mixed T) (hr.mono (by decide)) T.m_is_mixed T.F_is_mixed.kp (b_is_mixed_ T) (pad_cons (pd_var 6) pad_nil) (alen_cons alen_nil)))))) (fun _ _ _ _ _ => (pd_var 6)) (by decide) (by decide)) T.b_len (by decide +kernel)) pd_int))))
    (pbd_one (psd_ret (pd_t1 (b_tupleA rfl) (pd_own 3) T.b_tuple (by decide +kernel))))))))))
theorem sc__law_cup : FnScope ["script", "cell"] ["script"] (defScope s__law_cup) := ⟨rfl, rfl, rfl, by decide +kernel, rfl, by decide +kernel, by decide +kernel⟩
theorem ok__law_cup (T : Txt K mg) : FnOk P w K mg base CX0 1 T.a__law_cup T.d__law_cup ["script"] (spCup K) := by
  have sc := sc__law_cup
  refine T.F__law_cup.ok sc (fun vs H Q E h => ?_) (fun cdv A outer s H vs Q E hr h => ?_)
  · obtain ⟨a, ns, rfl, _⟩ := h
    rfl
  · refine ⟨_, pss_cons (ps_set (i := 1) sc.nd rfl (.inl rfl) (pe_callB call_abs rfl T.b_abs (by decide +kernel) (pa_cons (pe_ix ix_list (pe_op op_cat (pe_callTy call_list_of rfl T.b_list (by decide +kernel) (pa_cons (pv 0) pa_nil)) (pe_lst (pa_cons pe_int pa_nil))) pe_int (fun _ _ => rfl)) pa_nil)))
      (pss_one (ps_ret (pe_lst (pa_cons (pe_ifExp (pt_cmpR op_ge (pv 1) (pe_op op_pow pe_int pe_int) (nomark _)) (pe_op op_fdiv (pv 1) pe_int) pe_int) (pa_cons (pe_op op_add (pe_op op_mod (pe_callTy call_int1 rfl T.b_int (by decide +kernel) (pa_cons (pe_op op_add (pe_op op_mul (pv 1) pe_int) pe_int) pa_nil)) pe_int) pe_int) pa_nil))))), ?_⟩
    obtain ⟨a, ns, rfl, hS, hlen, q⟩ := h
    refine ⟨_, rfl, a, ns.map V.int, rfl, .inl hS, fun p1 n1 => ⟨by decide, fun p2 n2 => ?_⟩⟩
    have n12 : p1 ≠ p2 := fun e => by rw [← e, upd_same] at n2; cases n2
    refine ⟨p1, p2, ns.map V.int, [.int 0], rfl, rfl, by rw [upd_ne n12]; exact upd_same, upd_same, by rw [List.length_map]; exact Nat.le_trans (Nat.succ_le_succ hlen) (by decide), fun p3 n3 => ?_⟩
    obtain ⟨n0, e0⟩ : ∃ n0 : Int, atI (ns.map V.int ++ [.int 0]) 0 = some (.int n0) := by cases ns with
      | nil => exact ⟨0, rfl⟩
      | cons x r => exact ⟨x, atI_nat (j := 0) rfl⟩
    refine ⟨p3, _, 0, .int n0, rfl, rfl, .of upd_same, e0, n0, rfl, ?_⟩
    generalize hx : (if n0 < 0 then -n0 else n0) = x
    have hx0 : 0 ≤ x := by rw [← hx]; split <;> omega
    generalize hH : upd (upd (upd H p1 (.lst (ns.map V.int))) p2 (.lst [.int 0])) p3 (.lst (ns.map V.int ++ [.int 0])) = H3
    have hs : Same H H3 := by
      intro b o e
      have b1 := ne_of_none e n1
      have e1 : upd H p1 (.lst (ns.map V.int)) b = some o := by rw [upd_ne b1]; exact e
      have b2 := ne_of_none e1 n2
      have e2 : upd (upd H p1 (.lst (ns.map V.int))) p2 (.lst [.int 0]) b = some o := by rw [upd_ne b2]; exact e1
      rw [← hH, upd_ne (ne_of_none e2 n3)]
      exact e2
    refine ⟨_, rfl, 10, 18, rfl, rfl, ⟨by decide, by decide, by decide⟩, _, _, rfl, rfl, _, rfl, ite2 (fun _ => ?_) (fun _ => ?_)⟩
    · refine ⟨_, rfl, _, _, rfl, rfl, ⟨by decide, by decide⟩, _, rfl, _, _, rfl, rfl, .inr ⟨by decide, by decide⟩, _, _, rfl, rfl, .inl ⟨_, rfl, _, _, rfl, rfl, (by show (0 : Int) < _; decide), _, _, rfl, rfl, (by show 2 ≤ sizeLine; decide), fun p np => ?_⟩⟩
      exact q p (_, _) _ ⟨by dsimp only; omega, by dsimp only; omega, by dsimp only; omega⟩ (fun b o e => by rw [upd_ne (ne_of_none (hs b o e) np)]; exact hs b o e) upd_same
    · refine ⟨_, rfl, _, _, rfl, rfl, .inr ⟨by decide, by decide⟩, _, _, rfl, rfl, .inl ⟨_, rfl, _, _, rfl, rfl, (by show (0 : Int) < _; decide), _, _, rfl, rfl, (by show 2 ≤ sizeLine; decide), fun p np => ?_⟩⟩
      exact q p (_, _) _ ⟨by dsimp only; omega, by dsimp only; omega, by dsimp only; omega⟩ (fun b o e => by rw [upd_ne (ne_of_none (hs b o e) np)]; exact hs b o e) upd_same
theorem sc__law_roll : FnScope ["cup", "many", "found", "deep"] ["cup", "many"] (defScope s__law_roll) := ⟨rfl, rfl, rfl, by decide +kernel, rfl, by decide +kernel, by decide +kernel⟩
theorem ok__law_roll (T : Txt K mg) : FnOk P w K mg base CX0 1 T.a__law_roll T.d__law_roll ["cup", "many"] (spOf K 1 true m__law_roll) := by
  have sc := sc__law_roll
  exact ok_def (z := ⟨some 0, [], []⟩) T.F__law_roll sc__law_roll (fun cdv A outer s H E hr =>
    (pbd_cons (psd_if (ptd_cmp o2_gt pd_cup0 pd_int) (pbd_cons (psd_set (i := 2) sc.nd (pd_op o2_mod (pd_t1 b_int pd_cup0 T.b_int (by decide +kernel)) (pd_var 1)))
    (pbd_cons (psd_cup0 (pd_op o2_div pd_cup0 (pd_var 1)))
    (pbd_one (psd_ret (pd_var 2))))) pbd_nil)
    (pbd_cons (psd_cup1 (pd_op o2_mod (pd_t1 b_int (pd_op o2_add (pd_op o2_mul pd_cup1 pd_int) pd_int) T.b_int (by decide +kernel)) pd_int))
    (pbd_cons (psd_set (i := 3) sc.nd (pd_op o2_mod (pd_t1 b_int (pd_op o2_mul pd_cup1 (pd_op o2_add pd_cup1 pd_int)) T.b_int (by decide +kernel)) pd_int))
    (pbd_one (psd_ret (pd_op o2_mod (pd_t1 b_int (pd_op o2_div (pd_var 3) pd_int) T.b_int (by decide +kernel)) (pd_var 1))))))))
theorem sc__law_some : FnScope ["cup", "things"] ["cup", "things"] (defScope s__law_some) := ⟨rfl, rfl, rfl, by decide +kernel, rfl, by decide +kernel, by decide +kernel⟩
theorem ok__law_some (T : Txt K mg) : FnOk P w K mg base CX0 2 T.a__law_some T.d__law_some ["cup", "things"] (spOf K 1 true m__law_some) := by
  have sc := sc__law_some
  exact ok_def (z := ⟨some 0, [], []⟩) T.F__law_some sc__law_some (fun cdv A outer s H E hr =>
    (pbd_one (psd_ret (pd_ix (pd_var 1) (pd_callC (ok__law_roll T) (hr.mono (by decide)) T.m__law_roll T.F__law_roll.kp (b__law_roll_ T) (i := 0) rfl rfl (pad_cons (pd_b1 b_len (pd_var 1) T.b_len (by decide +kernel)) pad_nil) (alen_cons alen_nil))))))
theorem sc__law_same : FnScope ["told", "due", "at"] ["told", "due"] (defScope s__law_same) := ⟨rfl, rfl, rfl, by decide +kernel, rfl, by decide +kernel, by decide +kernel⟩
theorem ok__law_same (T : Txt K mg) : ∀ k : Nat, FnOk P w K mg base CX0 k T.a__law_same T.d__law_same ["told", "due"] (spOf K 2 false (m__law_same k))
  | 0 => ok_zero
  | k + 1 => by
    have ih := ok__law_same T k
    have sc := sc__law_same
    exact ok_def (z := ⟨none, [], []⟩) T.F__law_same sc__law_same (fun cdv A outer s H E hr =>
    (pbd_cons (psd_if (ptd_v (pd_isi .tuple (pd_var 1) T.b_isinstance T.b_tuple (by decide +kernel))) (pbd_cons (psd_if (ptd_w (pwd_or (ptd_not (ptd_v (pd_isi .tuple (pd_var 0) T.b_isinstance T.b_tuple (by decide +kernel)))) (pwd_or1 (ptd_cmp (o2_ne hr.units) (pd_b1 b_len (pd_var 0) T.b_len (by decide +kernel)) (pd_b1 b_len (pd_var 1) T.b_len (by decide +kernel)))))) (pbd_one (psd_ret pd_bl)) pbd_nil)
    (pbd_one (psd_ret (pd_b1 (b_all rfl) (pd_comp (own := [("at", 2)]) rfl sc.nd (blkOk_by (N := ["told", "due", "at"]) (sc := defScope s__law_same) (by decide +kernel)) (pid_range1 (pd_b1 b_len (pd_var 1) T.b_len (by decide +kernel)) T.b_range) (fun _ _ _ _ _ => (pgd_name (i := 2) sc.nd)) (fun _ _ _ _ _ => ptds_nil) (fun _ _ _ _ _ => (pd_call ih hr T.m__law_same T.F__law_same.kp (b__law_same_ T) (pad_cons (pd_ix (pd_var 0) (pd_var 2)) (pad_cons (pd_ix (pd_var 1) (pd_var 2)) pad_nil)) (alen_cons (alen_cons alen_nil)))) (by decide) (by decide)) T.b_all (by decide +kernel))))) pbd_nil)
    (pbd_cons (psd_if (ptd_cmp o2_is (pd_var 1) pd_non) (pbd_one (psd_ret (pd_cmp o2_is (pd_var 0) pd_non))) pbd_nil)
    (pbd_cons (psd_if (ptd_v (pd_isi .bool (pd_var 1) T.b_isinstance T.b_bool (by decide +kernel))) (pbd_one (psd_ret (pd_ife (ptd_v (pd_var 1)) (pd_cmp o2_is (pd_var 0) pd_bl) (pd_cmp o2_is (pd_var 0) pd_bl)))) pbd_nil)
    (pbd_cons (psd_if (ptd_v (pd_isi .int (pd_var 1) T.b_isinstance T.b_int (by decide +kernel))) (pbd_one (psd_ret (pd_and (pd_isi .int (pd_var 0) T.b_isinstance T.b_int (by decide +kernel)) (pd_and (pd_not (pd_isi .bool (pd_var 0) T.b_isinstance T.b_bool (by decide +kernel))) (pd_one (pd_cmp (o2_eq hr.units) (pd_t1 b_int (pd_var 0) T.b_int (by decide +kernel)) (pd_var 1))))))) pbd_nil)
    (pbd_one (psd_ret (pd_and (pd_isi .str (pd_var 0) T.b_isinstance T.b_str (by decide +kernel)) (pd_one (pd_cmp (o2_eq hr.units) (pd_t1 b_str (pd_var 0) T.b_str (by decide +kernel)) (pd_var 1)))))))))))
theorem sc__law_signs : FnScope ["cup", "many", "sign"] ["cup", "many"] (defScope s__law_signs) := ⟨rfl, rfl, rfl, by decide +kernel, rfl, by decide +kernel, by decide +kernel⟩
theorem ok__law_signs (T : Txt K mg) : FnOk P w K mg base CX0 3 T.a__law_signs T.d__law_signs ["cup", "many"] (spOf K 1 true m__law_signs) := by
  have sc := sc__law_signs
  exact ok_def (z := ⟨some 0, [], []⟩) T.F__law_signs sc__law_signs (fun cdv A outer s H E hr =>
    (pbd_one (psd_ret (pd_m1 PySem.F.plainAttrs_str PySem.F.slot_str_join PySem.F.type_str_join m_join ty_join pd_str (pd_comp (own := [("sign", 2)]) rfl sc.nd (blkOk_by (N := ["cup", "many", "sign"]) (sc := defScope s__law_signs) (by decide +kernel)) (pid_range1 (pd_var 1) T.b_range) (fun _ _ _ _ _ => (pgd_name (i := 2) sc.nd)) (fun _ _ _ _ _ => ptds_nil) (fun _ _ _ _ _ => (pd_callC (ok__law_some T) (hr.mono (by decide)) T.m__law_some T.F__law_some.kp (b__law_some_ T) (i := 0) rfl rfl (pad_cons pd_str pad_nil) (alen_cons alen_nil))) (by decide) (by decide))))))
theorem sc__law_wound : FnScope ["word", "stakes", "start", "found", "at", "stake"] ["word", "stakes", "start"] (defScope s__law_wound) := ⟨rfl, rfl, rfl, by decide +kernel, rfl, by decide +kernel, by decide +kernel⟩
theorem ok__law_wound (T : Txt K mg) : FnOk P w K mg base CX0 1 T.a__law_wound T.d__law_wound ["word", "stakes", "start"] (spOf K 3 false m__law_wound) := by
  have sc := sc__law_wound
  exact ok_def (z := ⟨none, [], []⟩) T.F__law_wound sc__law_wound (fun cdv A outer s H E hr =>
    (pbd_cons (psd_par2 (ks := [.sh, .sh]) (i := 3) (j := 4) rfl sc.nd (pak_cons pd_str (pak_cons (pd_var 2) pak_nil)) (by simp [Fits]))
    (pbd_cons (psd_for PassesOwn.never rfl (pid_range1 (pd_var 1) T.b_range) (pgd_name (i := 5) sc.nd) (pbd_one (psd_par2 (ks := [.sh, .sh]) (i := 3) (j := 4) rfl sc.nd (pak_cons (PD.frz (pd_op o2_add (pd_var 3) (pd_ix (pd_var 0) (pd_var 4)))) (pak_cons (PD.frz (pd_ife (ptd_cmp (o2_lt hr.units) (pd_op o2_add (pd_var 4) pd_int) (pd_b1 b_len (pd_var 0) T.b_len (by decide +kernel))) (pd_op o2_add (pd_var 4) pd_int) (PD.fr pd_int))) pak_nil)) (by simp [Fits]))))
    (pbd_one (psd_ret (pd_var 3))))))
theorem sc__law_went : FnScope ["word", "stakes", "rounds", "found", "at", "turn", "stake"] ["word", "stakes", "rounds"] (defScope s__law_went) := ⟨rfl, rfl, rfl, by decide +kernel, rfl, by decide +kernel, by decide +kernel⟩
theorem ok__law_went (T : Txt K mg) : FnOk P w K mg base CX0 2 T.a__law_went T.d__law_went ["word", "stakes", "rounds"] (spOf K 3 false m__law_went) := by
  have sc := sc__law_went
  exact ok_def (z := ⟨none, [3], []⟩) T.F__law_went sc__law_went (fun cdv A outer s H E hr =>
    (pbd_cons (psd_par2 (ks := [.nw, .sh]) (i := 3) (j := 4) rfl sc.nd (pak_cons (pd_lst pad_nil) (pak_cons pd_int pak_nil)) (by simp [Fits]))
    (pbd_cons (psd_for PassesOwn.never rfl (pid_range1 (pd_var 2) T.b_range) (pgd_name (i := 5) sc.nd) (pbd_cons (psd_app (i := 3) (pd_call (ok__law_wound T) (hr.mono (by decide)) T.m__law_wound T.F__law_wound.kp (b__law_wound_ T) (pad_cons (pd_var 0) (pad_cons (pd_var 1) (pad_cons (pd_var 4) pad_nil))) (alen_cons (alen_cons (alen_cons alen_nil)))))
    (pbd_one (psd_for PassesOwn.never rfl (pid_range1 (pd_var 1) T.b_range) (pgd_name (i := 6) sc.nd) (pbd_one (psd_set (i := 4) sc.nd (PD.frz (pd_ife (ptd_cmp (o2_lt hr.units) (pd_op o2_add (pd_var 4) pd_int) (pd_b1 b_len (pd_var 0) T.b_len (by decide +kernel))) (pd_op o2_add (pd_var 4) pd_int) (PD.fr pd_int)))))))))
    (pbd_one (psd_ret (pd_t1 (b_tupleA rfl) (pd_own 3) T.b_tuple (by decide +kernel)))))))
theorem sc__law_words : FnScope ["length", "found", "turn", "longer", "word"] ["length"] (defScope s__law_words) := ⟨rfl, rfl, rfl, by decide +kernel, rfl, by decide +kernel, by decide +kernel⟩
theorem ok__law_words (T : Txt K mg) : FnOk P w K mg base CX0 1 T.a__law_words T.d__law_words ["length"] (spOf K 1 false m__law_words) := by
  have sc := sc__law_words
  exact ok_def (z := ⟨none, [], []⟩) T.F__law_words sc__law_words (fun cdv A outer s H E hr =>
    (pbd_cons (psd_set (i := 1) sc.nd (PD.frz (PD.nfr (pd_lst (pad_cons pd_str pad_nil)))))
    (pbd_cons (psd_for PassesOwn.never rfl (pid_range1 (pd_var 0) T.b_range) (pgd_name (i := 2) sc.nd) (pbd_cons (psd_set (i := 3) sc.nd (PD.frz (PD.nfr (pd_lst pad_nil))))
    (pbd_cons (psd_for PassesOwn.never rfl (pid_items (pd_var 1)) (pgd_name (i := 4) sc.nd) (pbd_one (psd_set (i := 3) sc.nd (PD.frz (pd_op o2_add (pd_var 3) (pd_lst (pad_cons (PD.frz (pd_op o2_add (pd_var 4) pd_str)) (pad_cons (PD.frz (pd_op o2_add (pd_var 4) pd_str)) pad_nil))))))))
    (pbd_one (psd_set (i := 1) sc.nd (pd_var 3))))))
    (pbd_one (psd_ret (pd_var 1))))))
theorem sc__law_loose : FnScope ["rounds", "at", "one"] ["rounds"] (defScope s__law_loose) := ⟨rfl, rfl, rfl, by decide +kernel, rfl, by decide +kernel, by decide +kernel⟩
theorem ok__law_loose (T : Txt K mg) : FnOk P w K mg base CX0 1 T.a__law_loose T.d__law_loose ["rounds"] (spOf K 1 false m__law_loose) := by
  have sc := sc__law_loose
  exact ok_def (z := ⟨none, [], []⟩) T.F__law_loose sc__law_loose (fun cdv A outer s H E hr =>
    (pbd_one (psd_ret (pd_comp (own := [("at", 1)]) rfl sc.nd (blkOk_by (N := ["rounds", "at", "one"]) (sc := defScope s__law_loose) (by decide +kernel)) (pid_range1 (pd_b1 b_len (pd_ix (pd_var 0) pd_int) T.b_len (by decide +kernel)) T.b_range) (fun _ _ _ _ _ => (pgd_name (i := 1) sc.nd)) (fun _ _ _ _ _ => (ptds_one (ptd_cmp (o2_eq hr.units) (pd_lenSetA rfl (pd_comp (own := [("one", 2)]) rfl sc.nd (blkOk_in (N := ["rounds", "at", "one"]) (sc := defScope s__law_loose) (by decide +kernel)) (pid_itemsS (pd_var 0)) (fun _ _ _ _ _ => (pgd_name (i := 2) sc.nd)) (fun _ _ _ _ _ => ptds_nil) (fun _ _ _ _ _ => (pd_ix (pd_var 2) (pd_var 1))) (by decide) (by decide)) T.b_len T.b_set) pd_int))) (fun _ _ _ _ _ => (pd_var 1)) (by decide) (by decide)))))
theorem sc__law_right : FnScope ["cup", "stakes", "high", "word", "far", "holds", "told", "length", "loose", "counts", "never", "due", "size", "good", "many", "own"] ["cup"] (defScope s__law_right) := ⟨rfl, rfl, rfl, by decide +kernel, rfl, by decide +kernel, by decide +kernel⟩
theorem ok__law_right (T : Txt K mg) : FnOk P w K mg base CX0 9 T.a__law_right T.d__law_right ["cup"] (spOf K 0 true m__law_right) := by
  have sc := sc__law_right
  exact ok_def (z := ⟨some 0, [], []⟩) T.F__law_right sc__law_right (fun cdv A outer s H E hr =>
    (pbd_cons (psd_many (ks := [.sh, .sh]) (is := [1, 2]) rfl (pak_cons (PD.frz (pd_op o2_add pd_int (pd_callC (ok__law_roll T) (hr.mono (by decide)) T.m__law_roll T.F__law_roll.kp (b__law_roll_ T) (i := 0) rfl rfl (pad_cons pd_int pad_nil) (alen_cons alen_nil)))) (pak_cons (PD.frz (pd_op o2_add pd_int (pd_callC (ok__law_roll T) (hr.mono (by decide)) T.m__law_roll T.F__law_roll.kp (b__law_roll_ T) (i := 0) rfl rfl (pad_cons pd_int pad_nil) (alen_cons alen_nil)))) pak_nil)) (by simp [Fits]) (.cons (pg_name (i := 1) sc.nd rfl (by first | exact Or.inl rfl | exact Or.inr rfl)) rfl (.cons (pg_name (i := 2) sc.nd rfl (by first | exact Or.inl rfl | exact Or.inr rfl)) rfl .nil)))
    (pbd_cons (psd_set (i := 3) sc.nd (pd_callC (ok__law_some T) (hr.mono (by decide)) T.m__law_some T.F__law_some.kp (b__law_some_ T) (i := 0) rfl rfl (pad_cons (PD.frz (PD.nfr (pd_lst (pad_cons (pd_callC (ok__law_signs T) (hr.mono (by decide)) T.m__law_signs T.F__law_signs.kp (b__law_signs_ T) (i := 0) rfl rfl (pad_cons (PD.frz (pd_op o2_add pd_int (pd_callC (ok__law_roll T) (hr.mono (by decide)) T.m__law_roll T.F__law_roll.kp (b__law_roll_ T) (i := 0) rfl rfl (pad_cons pd_int pad_nil) (alen_cons alen_nil)))) pad_nil) (alen_cons alen_nil)) (pad_cons (pd_callC (ok__law_signs T) (hr.mono (by decide)) T.m__law_signs T.F__law_signs.kp (b__law_signs_ T) (i := 0) rfl rfl (pad_cons (PD.frz (pd_op o2_add pd_int (pd_callC (ok__law_roll T) (hr.mono (by decide)) T.m__law_roll T.F__law_roll.kp (b__law_roll_ T) (i := 0) rfl rfl (pad_cons pd_int pad_nil) (alen_cons alen_nil)))) pad_nil) (alen_cons alen_nil)) pad_nil))))) pad_nil) (alen_cons alen_nil)))
    (pbd_cons (psd_set (i := 4) sc.nd (pd_call (ok__law_went T) (hr.mono (by decide)) T.m__law_went T.F__law_went.kp (b__law_went_ T) (pad_cons (pd_var 3) (pad_cons (pd_var 1) (pad_cons pd_int pad_nil))) (alen_cons (alen_cons (alen_cons alen_nil)))))
    (pbd_cons (psd_setLc (i := 5) (own := [("many", 14)]) rfl sc.nd (blkOk_by (N := ["cup", "stakes", "high", "word", "far", "holds", "told", "length", "loose", "counts", "never", "due", "size", "good", "many", "own"]) (sc := defScope s__law_right) (by decide +kernel)) (pid_range2 pd_int pd_int T.b_range) (fun _ _ _ _ _ => (pgd_name (i := 14) sc.nd)) (fun _ _ _ _ _ => (ptds_one (ptd_cmp (o2_eq hr.units) (pd_call (ok__law_loose T) (hr.mono (by decide)) T.m__law_loose T.F__law_loose.kp (b__law_loose_ T) (pad_cons (PD.frz (pd_sl (pd_var 4) pod_none (pod_some (pd_var 14)))) pad_nil) (alen_cons alen_nil)) (pd_lst pad_nil)))) (fun _ _ _ _ _ => (pd_var 14)) (by decide) (by decide))
    (pbd_cons (psd_set (i := 6) sc.nd (pd_tup (pad_cons (pd_call (ok_rounds_to_hold T) (hr.mono (by decide)) T.m_rounds_to_hold T.F_rounds_to_hold.kp (b_rounds_to_hold_ T) (pad_cons (pd_var 3) (pad_cons (pd_var 1) pad_nil)) (alen_cons (alen_cons alen_nil))) (pad_cons (pd_call (ok_unlike_rounds T) (hr.mono (by decide)) T.m_unlike_rounds T.F_unlike_rounds.kp (b_unlike_rounds_ T) (pad_cons (pd_var 3) (pad_cons (pd_var 1) pad_nil)) (alen_cons (alen_cons alen_nil))) (pad_cons (pd_call (ok_loose_behind T) (hr.mono (by decide)) T.m_loose_behind T.F_loose_behind.kp (b_loose_behind_ T) (pad_cons (pd_var 3) (pad_cons (pd_var 1) (pad_cons (pd_var 2) pad_nil))) (alen_cons (alen_cons (alen_cons alen_nil)))) pad_nil)))))
    (pbd_cons (psd_if (ptd_not (ptd_v (pd_call (ok__law_same T 8) (hr.mono (by decide)) T.m__law_same T.F__law_same.kp (b__law_same_ T) (pad_cons (pd_var 6) (pad_cons (pd_tup (pad_cons (pd_ife (ptd_cmp (o2_ne hr.units) (pd_var 5) (pd_lst pad_nil)) (pd_ix (pd_var 5) pd_int) pd_non) (pad_cons (pd_lenSetA rfl (pd_var 4) T.b_len T.b_set) (pad_cons (pd_t1 (b_tupleA rfl) (pd_call (ok__law_loose T) (hr.mono (by decide)) T.m__law_loose T.F__law_loose.kp (b__law_loose_ T) (pad_cons (PD.frz (pd_sl (pd_var 4) pod_none (pod_some (pd_var 2)))) pad_nil) (alen_cons alen_nil)) T.b_tuple (by decide +kernel)) pad_nil)))) pad_nil)) (alen_cons (alen_cons alen_nil))))) (pbd_one (psd_ret pd_bl)) pbd_nil)
    (pbd_cons (psd_set (i := 7) sc.nd (PD.frz (pd_op o2_add pd_int (pd_callC (ok__law_roll T) (hr.mono (by decide)) T.m__law_roll T.F__law_roll.kp (b__law_roll_ T) (i := 0) rfl rfl (pad_cons pd_int pad_nil) (alen_cons alen_nil)))))
    (pbd_cons (psd_set (i := 8) sc.nd (PD.frz (PD.nfr (pd_comp (own := [("own", 15)]) rfl sc.nd (blkOk_by (N := ["cup", "stakes", "high", "word", "far", "holds", "told", "length", "loose", "counts", "never", "due", "size", "good", "many", "own"]) (sc := defScope s__law_right) (by decide +kernel)) (pid_itemsS (pd_call (ok__law_words T) (hr.mono (by decide)) T.m__law_words T.F__law_words.kp (b__law_words_ T) (pad_cons (pd_var 7) pad_nil) (alen_cons alen_nil))) (fun _ _ _ _ _ => (pgd_name (i := 15) sc.nd)) (fun _ _ _ _ _ => ptds_nil) (fun _ _ _ _ _ => (pd_b1 b_len (pd_call (ok__law_loose T) (hr.mono (by decide)) T.m__law_loose T.F__law_loose.kp (b__law_loose_ T) (pad_cons (pd_call (ok__law_went T) (hr.mono (by decide)) T.m__law_went T.F__law_went.kp (b__law_went_ T) (pad_cons (pd_var 15) (pad_cons (pd_var 1) (pad_cons (pd_var 2) pad_nil))) (alen_cons (alen_cons (alen_cons alen_nil)))) pad_nil) (alen_cons alen_nil)) T.b_len (by decide +kernel))) (by decide) (by decide)))))
    (pbd_cons (psd_set (i := 9) sc.nd (pd_t1 (b_tupleA rfl) (pd_comp (own := [("many", 14)]) rfl sc.nd (blkOk_by (N := ["cup", "stakes", "high", "word", "far", "holds", "told", "length", "loose", "counts", "never", "due", "size", "good", "many", "own"]) (sc := defScope s__law_right) (by decide +kernel)) (pid_range1 (pd_op o2_add (pd_var 1) pd_int) T.b_range) (fun _ _ _ _ _ => (pgd_name (i := 14) sc.nd)) (fun _ _ _ _ _ => ptds_nil) (fun _ _ _ _ _ => (pd_m1 PySem.F.plainAttrs_list PySem.F.slot_list_count PySem.F.type_list_count (m_lcount (u65 hr)) ty_lcount (pd_var 8) (pd_var 14))) (by decide) (by decide)) T.b_tuple (by decide +kernel)))
    (pbd_cons (psd_set (i := 10) sc.nd (pd_b1 b_len (pd_comp (own := [("own", 15)]) rfl sc.nd (blkOk_by (N := ["cup", "stakes", "high", "word", "far", "holds", "told", "length", "loose", "counts", "never", "due", "size", "good", "many", "own"]) (sc := defScope s__law_right) (by decide +kernel)) (pid_itemsS (pd_call (ok__law_words T) (hr.mono (by decide)) T.m__law_words T.F__law_words.kp (b__law_words_ T) (pad_cons (pd_var 7) pad_nil) (alen_cons alen_nil))) (fun _ _ _ _ _ => (pgd_name (i := 15) sc.nd)) (fun _ _ _ _ _ => (ptds_one (ptd_cmp (o2_ne hr.units) (pd_call (ok__law_loose T) (hr.mono (by decide)) T.m__law_loose T.F__law_loose.kp (b__law_loose_ T) (pad_cons (pd_call (ok__law_went T) (hr.mono (by decide)) T.m__law_went T.F__law_went.kp (b__law_went_ T) (pad_cons (pd_var 15) (pad_cons (pd_var 1) (pad_cons pd_int pad_nil))) (alen_cons (alen_cons (alen_cons alen_nil)))) pad_nil) (alen_cons alen_nil)) (pd_lst pad_nil)))) (fun _ _ _ _ _ => (pd_var 15)) (by decide) (by decide)) T.b_len (by decide +kernel)))
    (pbd_cons (psd_set (i := 6) sc.nd (pd_tup (pad_cons (pd_call (ok_holding_many T) (hr.mono (by decide)) T.m_holding_many T.F_holding_many.kp (b_holding_many_ T) (pad_cons (pd_var 1) (pad_cons (pd_var 2) (pad_cons (pd_var 7) pad_nil))) (alen_cons (alen_cons (alen_cons alen_nil)))) (pad_cons (pd_call (ok_loose_counts T) (hr.mono (by decide)) T.m_loose_counts T.F_loose_counts.kp (b_loose_counts_ T) (pad_cons (pd_var 1) (pad_cons (pd_var 2) (pad_cons (pd_var 7) pad_nil))) (alen_cons (alen_cons (alen_cons alen_nil)))) (pad_cons (pd_call (ok_never_holding T) (hr.mono (by decide)) T.m_never_holding T.F_never_holding.kp (b_never_holding_ T) (pad_cons (pd_var 1) (pad_cons (pd_var 7) pad_nil)) (alen_cons (alen_cons alen_nil))) pad_nil)))))
    (pbd_cons (psd_if (ptd_not (ptd_v (pd_call (ok__law_same T 8) (hr.mono (by decide)) T.m__law_same T.F__law_same.kp (b__law_same_ T) (pad_cons (pd_var 6) (pad_cons (pd_tup (pad_cons (pd_ix (pd_var 9) pd_int) (pad_cons (pd_var 9) (pad_cons (pd_var 10) pad_nil)))) pad_nil)) (alen_cons (alen_cons alen_nil))))) (pbd_one (psd_ret pd_bl)) pbd_nil)
    (pbd_cons (psd_set (i := 11) sc.nd pd_non)
    (pbd_cons (psd_for PassesOwn.never rfl (pid_range2 pd_int pd_int T.b_range) (pgd_name (i := 12) sc.nd) (pbd_cons (psd_set (i := 13) sc.nd (PD.frz (PD.nfr (pd_ife (ptd_cmp o2_is (pd_var 11) pd_non) (pd_comp (own := [("own", 15)]) rfl sc.nd (blkOk_by (N := ["cup", "stakes", "high", "word", "far", "holds", "told", "length", "loose", "counts", "never", "due", "size", "good", "many", "own"]) (sc := defScope s__law_right) (by decide +kernel)) (pid_itemsS (pd_call (ok__law_words T) (hr.mono (by decide)) T.m__law_words T.F__law_words.kp (b__law_words_ T) (pad_cons (pd_var 12) pad_nil) (alen_cons alen_nil))) (fun _ _ _ _ _ => (pgd_name (i := 15) sc.nd)) (fun _ _ _ _ _ => (ptds_one (ptd_cmp (o2_eq hr.units) (pd_call (ok__law_loose T) (hr.mono (by decide)) T.m__law_loose T.F__law_loose.kp (b__law_loose_ T) (pad_cons (pd_call (ok__law_went T) (hr.mono (by decide)) T.m__law_went T.F__law_went.kp (b__law_went_ T) (pad_cons (pd_var 15) (pad_cons (pd_var 1) (pad_cons (pd_var 2) pad_nil))) (alen_cons (alen_cons (alen_cons alen_nil)))) pad_nil) (alen_cons alen_nil)) (pd_lst pad_nil)))) (fun _ _ _ _ _ => (pd_var 15)) (by decide) (by decide)) (pd_lst pad_nil)))))
    (pbd_one (psd_set (i := 11) sc.nd (pd_ife (ptd_cmp (o2_ne hr.units) (pd_var 13) (pd_lst pad_nil)) (pd_ix (pd_var 13) pd_int) (pd_var 11))))))
    (pbd_one (psd_ret (pd_call (ok__law_same T 8) (hr.mono (by decide)) T.m__law_same T.F__law_same.kp (b__law_same_ T) (pad_cons (pd_call (ok_first_holding T) (hr.mono (by decide)) T.m_first_holding T.F_first_holding.kp (b_first_holding_ T) (pad_cons (pd_var 1) (pad_cons (pd_var 2) pad_nil)) (alen_cons (alen_cons alen_nil))) (pad_cons (pd_var 11) pad_nil)) (alen_cons (alen_cons alen_nil))))))))))))))))))))
theorem sc_law : FnScope ["script", "cup", "turn", "stakes", "high", "odd", "told", "at"] ["script"] (defScope s_law) := ⟨rfl, rfl, rfl, by decide +kernel, rfl, by decide +kernel, by decide +kernel⟩
theorem ok_law (T : Txt K mg) : FnOk P w K mg base CX0 10 T.a_law T.d_law ["script"] (spLaw K) := by
  have sc := sc_law
  refine T.F_law.ok sc (fun vs H Q E h => ?_) (fun cdv A outer s H vs Q E hr h => ?_)
  · obtain ⟨a, ns, rfl, _⟩ := h
    rfl
  · refine ⟨_, pss_cons (ps_set (i := 1) sc.nd rfl (by first | exact Or.inl rfl | exact Or.inr rfl) (pe_call (ok__law_cup T) (hr.mono (by decide)) rfl T.m__law_cup T.F__law_cup.kp (b__law_cup_ T) .nil pass0 (pa_cons (pv 0) pa_nil)))
      (show PBd _ ⟨some 1, [], []⟩ _ b_law from
    (pbd_cons (psd_for PassesOwn.never rfl (pid_range1 pd_int T.b_range) (pgd_name (i := 2) sc.nd) (pbd_one (psd_if (ptd_not (ptd_v (pd_callC (ok__law_right T) (hr.mono (by decide)) T.m__law_right T.F__law_right.kp (b__law_right_ T) (i := 1) rfl rfl pad_nil alen_nil))) (pbd_one (psd_ret pd_bl)) pbd_nil)))
    (pbd_cons (psd_par2 (ks := [.sh, .sh]) (i := 3) (j := 4) rfl sc.nd (pak_cons (PD.frz (pd_op o2_add pd_int (pd_callC (ok__law_roll T) (hr.mono (by decide)) T.m__law_roll T.F__law_roll.kp (b__law_roll_ T) (i := 1) rfl rfl (pad_cons pd_int pad_nil) (alen_cons alen_nil)))) (pak_cons (PD.frz (pd_op o2_add pd_int (pd_callC (ok__law_roll T) (hr.mono (by decide)) T.m__law_roll T.F__law_roll.kp (b__law_roll_ T) (i := 1) rfl rfl (pad_cons pd_int pad_nil) (alen_cons alen_nil)))) pak_nil)) (by simp [Fits]))
    (pbd_cons (psd_set (i := 5) sc.nd (pd_cmp (o2_eq hr.units) (pd_op o2_mod (pd_var 3) pd_int) pd_int))
    (pbd_cons (psd_set (i := 6) sc.nd (pd_tup (pad_cons (pd_call (ok_rounds_to_hold T) (hr.mono (by decide)) T.m_rounds_to_hold T.F_rounds_to_hold.kp (b_rounds_to_hold_ T) (pad_cons pd_str (pad_cons (pd_var 3) pad_nil)) (alen_cons (alen_cons alen_nil))) (pad_cons (pd_call (ok_unlike_rounds T) (hr.mono (by decide)) T.m_unlike_rounds T.F_unlike_rounds.kp (b_unlike_rounds_ T) (pad_cons pd_str (pad_cons (pd_var 3) pad_nil)) (alen_cons (alen_cons alen_nil))) (pad_cons (pd_call (ok_first_holding T) (hr.mono (by decide)) T.m_first_holding T.F_first_holding.kp (b_first_holding_ T) (pad_cons (pd_var 3) (pad_cons pd_int pad_nil)) (alen_cons (alen_cons alen_nil))) (pad_cons (pd_call (ok_holding_many T) (hr.mono (by decide)) T.m_holding_many T.F_holding_many.kp (b_holding_many_ T) (pad_cons (pd_var 3) (pad_cons (pd_var 4) (pad_cons pd_int pad_nil))) (alen_cons (alen_cons (alen_cons alen_nil)))) pad_nil))))))
    (pbd_cons (psd_if (ptd_not (ptd_v (pd_call (ok__law_same T 8) (hr.mono (by decide)) T.m__law_same T.F__law_same.kp (b__law_same_ T) (pad_cons (pd_var 6) (pad_cons (pd_tup (pad_cons (pd_ife (ptd_v (pd_var 5)) pd_int pd_non) (pad_cons (pd_ife (ptd_v (pd_var 5)) pd_int pd_int) (pad_cons pd_non (pad_cons (pd_ife (ptd_v (pd_var 5)) pd_int pd_int) pad_nil))))) pad_nil)) (alen_cons (alen_cons alen_nil))))) (pbd_one (psd_ret pd_bl)) pbd_nil)
    (pbd_one (psd_ret (pd_or (pd_not (pd_var 5)) (pd_one (pd_call (ok__law_same T 8) (hr.mono (by decide)) T.m__law_same T.F__law_same.kp (b__law_same_ T) (pad_cons (pd_tup (pad_cons (pd_call (ok_first_holding T) (hr.mono (by decide)) T.m_first_holding T.F_first_holding.kp (b_first_holding_ T) (pad_cons (pd_var 3) (pad_cons (pd_var 4) pad_nil)) (alen_cons (alen_cons alen_nil))) (pad_cons (pd_call (ok_loose_behind T) (hr.mono (by decide)) T.m_loose_behind T.F_loose_behind.kp (b_loose_behind_ T) (pad_cons pd_str (pad_cons (pd_var 3) (pad_cons pd_int pad_nil))) (alen_cons (alen_cons (alen_cons alen_nil)))) pad_nil))) (pad_cons (pd_tup (pad_cons pd_str (pad_cons (pd_t1 (b_tupleA rfl) (pd_comp (own := [("at", 7)]) rfl sc.nd (blkOk_by (N := ["script", "cup", "turn", "stakes", "high", "odd", "told", "at"]) (sc := defScope s_law) (by decide +kernel)) (pid_range1 (pd_var 3) T.b_range) (fun _ _ _ _ _ => (pgd_name (i := 7) sc.nd)) (fun _ _ _ _ _ => ptds_nil) (fun _ _ _ _ _ => (pd_var 7)) (by decide) (by decide)) T.b_tuple (by decide +kernel)) pad_nil))) pad_nil)) (alen_cons (alen_cons alen_nil))))))))))))).pb, ?_⟩
    exact law_reads (m := 6) rfl rfl law_true h
end
theorem all_mk {l : PySem.W.OpenLaw} {w : World} {K : PySem.W.Frag} {h : Heap} {mg : Str → Option Value} {fa : Addr} (X : K.In h) (G : h.Ns mainGlobals mg) (hfa : mg "law" = some (.ref fa))
    {oc0 kV0 dc0 pm0 cd0 ct0 : Value} {od0 an0 : Option Addr} {sl0 : Array (Option Value)} {f0 : Addr}
    {oc1 kV1 dc1 pm1 cd1 ct1 : Value} {od1 an1 : Option Addr} {sl1 : Array (Option Value)} {f1 : Addr}
    {oc2 kV2 dc2 pm2 cd2 ct2 : Value} {od2 an2 : Option Addr} {sl2 : Array (Option Value)} {f2 : Addr}
    {oc3 kV3 dc3 pm3 cd3 ct3 : Value} {od3 an3 : Option Addr} {sl3 : Array (Option Value)} {f3 : Addr}
    {oc4 kV4 dc4 pm4 cd4 ct4 : Value} {od4 an4 : Option Addr} {sl4 : Array (Option Value)} {f4 : Addr}
    {oc5 kV5 dc5 pm5 cd5 ct5 : Value} {od5 an5 : Option Addr} {sl5 : Array (Option Value)} {f5 : Addr}
    {oc6 kV6 dc6 pm6 cd6 ct6 : Value} {od6 an6 : Option Addr} {sl6 : Array (Option Value)} {f6 : Addr}
    {oc7 kV7 dc7 pm7 cd7 ct7 : Value} {od7 an7 : Option Addr} {sl7 : Array (Option Value)} {f7 : Addr}
    {oc8 kV8 dc8 pm8 cd8 ct8 : Value} {od8 an8 : Option Addr} {sl8 : Array (Option Value)} {f8 : Addr}
    {oc9 kV9 dc9 pm9 cd9 ct9 : Value} {od9 an9 : Option Addr} {sl9 : Array (Option Value)} {f9 : Addr}
    {oc10 kV10 dc10 pm10 cd10 ct10 : Value} {od10 an10 : Option Addr} {sl10 : Array (Option Value)} {f10 : Addr}
    {oc11 kV11 dc11 pm11 cd11 ct11 : Value} {od11 an11 : Option Addr} {sl11 : Array (Option Value)} {f11 : Addr}
    {oc12 kV12 dc12 pm12 cd12 ct12 : Value} {od12 an12 : Option Addr} {sl12 : Array (Option Value)} {f12 : Addr}
    {oc13 kV13 dc13 pm13 cd13 ct13 : Value} {od13 an13 : Option Addr} {sl13 : Array (Option Value)} {f13 : Addr}
    {oc14 kV14 dc14 pm14 cd14 ct14 : Value} {od14 an14 : Option Addr} {sl14 : Array (Option Value)} {f14 : Addr}
    {oc15 kV15 dc15 pm15 cd15 ct15 : Value} {od15 an15 : Option Addr} {sl15 : Array (Option Value)} {f15 : Addr}
    {oc16 kV16 dc16 pm16 cd16 ct16 : Value} {od16 an16 : Option Addr} {sl16 : Array (Option Value)} {f16 : Addr}
    {oc17 kV17 dc17 pm17 cd17 ct17 : Value} {od17 an17 : Option Addr} {sl17 : Array (Option Value)} {f17 : Addr}
    {oc18 kV18 dc18 pm18 cd18 ct18 : Value} {od18 an18 : Option Addr} {sl18 : Array (Option Value)} {f18 : Addr}
    {oc19 kV19 dc19 pm19 cd19 ct19 : Value} {od19 an19 : Option Addr} {sl19 : Array (Option Value)} {f19 : Addr}
    {oc20 kV20 dc20 pm20 cd20 ct20 : Value} {od20 an20 : Option Addr} {sl20 : Array (Option Value)} {f20 : Addr}
    {oc21 kV21 dc21 pm21 cd21 ct21 : Value} {od21 an21 : Option Addr} {sl21 : Array (Option Value)} {f21 : Addr}
    {oc22 kV22 dc22 pm22 cd22 ct22 : Value} {od22 an22 : Option Addr} {sl22 : Array (Option Value)} {f22 : Addr}
    {oc23 kV23 dc23 pm23 cd23 ct23 : Value} {od23 an23 : Option Addr} {sl23 : Array (Option Value)} {f23 : Addr}
    {oc24 kV24 dc24 pm24 cd24 ct24 : Value} {od24 an24 : Option Addr} {sl24 : Array (Option Value)} {f24 : Addr}
    {oc25 kV25 dc25 pm25 cd25 ct25 : Value} {od25 an25 : Option Addr} {sl25 : Array (Option Value)} {f25 : Addr}
    {oc26 kV26 dc26 pm26 cd26 ct26 : Value} {od26 an26 : Option Addr} {sl26 : Array (Option Value)} {f26 : Addr}
    {oc27 kV27 dc27 pm27 cd27 ct27 : Value} {od27 an27 : Option Addr} {sl27 : Array (Option Value)} {f27 : Addr}
    {oc28 kV28 dc28 pm28 cd28 ct28 : Value} {od28 an28 : Option Addr} {sl28 : Array (Option Value)} {f28 : Addr}
    {oc29 kV29 dc29 pm29 cd29 ct29 : Value} {od29 an29 : Option Addr} {sl29 : Array (Option Value)} {f29 : Addr}
    {oc30 kV30 dc30 pm30 cd30 ct30 : Value} {od30 an30 : Option Addr} {sl30 : Array (Option Value)} {f30 : Addr}
    {oc31 kV31 dc31 pm31 cd31 ct31 : Value} {od31 an31 : Option Addr} {sl31 : Array (Option Value)} {f31 : Addr}
    {oc32 kV32 dc32 pm32 cd32 ct32 : Value} {od32 an32 : Option Addr} {sl32 : Array (Option Value)} {f32 : Addr}
    (a0 : PySem.W.nsIn K mainGlobals "is_whole" = some (some (.ref f0))) (l0 : K.lookup f0 = some ⟨oc0, od0, .func (PySem.W.fnOf "is_whole" "is_whole" (defArgs s_is_whole) (defBody s_is_whole) (defScope s_is_whole) .none kV0 dc0 pm0 an0 cd0 ct0), sl0⟩) (c0 : PySem.W.codeIn K cd0 "is_whole" = true) (k0 : PySem.W.keepIn K (.ref f0) = true)
    (a1 : PySem.W.nsIn K mainGlobals "fits_whole" = some (some (.ref f1))) (l1 : K.lookup f1 = some ⟨oc1, od1, .func (PySem.W.fnOf "fits_whole" "fits_whole" (defArgs s_fits_whole) (defBody s_fits_whole) (defScope s_fits_whole) .none kV1 dc1 pm1 an1 cd1 ct1), sl1⟩) (c1 : PySem.W.codeIn K cd1 "fits_whole" = true) (k1 : PySem.W.keepIn K (.ref f1) = true)
    (a2 : PySem.W.nsIn K mainGlobals "fits_signs" = some (some (.ref f2))) (l2 : K.lookup f2 = some ⟨oc2, od2, .func (PySem.W.fnOf "fits_signs" "fits_signs" (defArgs s_fits_signs) (defBody s_fits_signs) (defScope s_fits_signs) .none kV2 dc2 pm2 an2 cd2 ct2), sl2⟩) (c2 : PySem.W.codeIn K cd2 "fits_signs" = true) (k2 : PySem.W.keepIn K (.ref f2) = true)
    (a3 : PySem.W.nsIn K mainGlobals "fits_word" = some (some (.ref f3))) (l3 : K.lookup f3 = some ⟨oc3, od3, .func (PySem.W.fnOf "fits_word" "fits_word" (defArgs s_fits_word) (defBody s_fits_word) (defScope s_fits_word) .none kV3 dc3 pm3 an3 cd3 ct3), sl3⟩) (c3 : PySem.W.codeIn K cd3 "fits_word" = true) (k3 : PySem.W.keepIn K (.ref f3) = true)
    (a4 : PySem.W.nsIn K mainGlobals "need_word" = some (some (.ref f4))) (l4 : K.lookup f4 = some ⟨oc4, od4, .func (PySem.W.fnOf "need_word" "need_word" (defArgs s_need_word) (defBody s_need_word) (defScope s_need_word) .none kV4 dc4 pm4 an4 cd4 ct4), sl4⟩) (c4 : PySem.W.codeIn K cd4 "need_word" = true) (k4 : PySem.W.keepIn K (.ref f4) = true)
    (a5 : PySem.W.nsIn K mainGlobals "need_stakes" = some (some (.ref f5))) (l5 : K.lookup f5 = some ⟨oc5, od5, .func (PySem.W.fnOf "need_stakes" "need_stakes" (defArgs s_need_stakes) (defBody s_need_stakes) (defScope s_need_stakes) .none kV5 dc5 pm5 an5 cd5 ct5), sl5⟩) (c5 : PySem.W.codeIn K cd5 "need_stakes" = true) (k5 : PySem.W.keepIn K (.ref f5) = true)
    (a6 : PySem.W.nsIn K mainGlobals "wound_in" = some (some (.ref f6))) (l6 : K.lookup f6 = some ⟨oc6, od6, .func (PySem.W.fnOf "wound_in" "wound_in" (defArgs s_wound_in) (defBody s_wound_in) (defScope s_wound_in) .none kV6 dc6 pm6 an6 cd6 ct6), sl6⟩) (c6 : PySem.W.codeIn K cd6 "wound_in" = true) (k6 : PySem.W.keepIn K (.ref f6) = true)
    (a7 : PySem.W.nsIn K mainGlobals "columns_in" = some (some (.ref f7))) (l7 : K.lookup f7 = some ⟨oc7, od7, .func (PySem.W.fnOf "columns_in" "columns_in" (defArgs s_columns_in) (defBody s_columns_in) (defScope s_columns_in) .none kV7 dc7 pm7 an7 cd7 ct7), sl7⟩) (c7 : PySem.W.codeIn K cd7 "columns_in" = true) (k7 : PySem.W.keepIn K (.ref f7) = true)
    (a8 : PySem.W.nsIn K mainGlobals "need_rounds" = some (some (.ref f8))) (l8 : K.lookup f8 = some ⟨oc8, od8, .func (PySem.W.fnOf "need_rounds" "need_rounds" (defArgs s_need_rounds) (defBody s_need_rounds) (defScope s_need_rounds) .none kV8 dc8 pm8 an8 cd8 ct8), sl8⟩) (c8 : PySem.W.codeIn K cd8 "need_rounds" = true) (k8 : PySem.W.keepIn K (.ref f8) = true)
    (a9 : PySem.W.nsIn K mainGlobals "need_length" = some (some (.ref f9))) (l9 : K.lookup f9 = some ⟨oc9, od9, .func (PySem.W.fnOf "need_length" "need_length" (defArgs s_need_length) (defBody s_need_length) (defScope s_need_length) .none kV9 dc9 pm9 an9 cd9 ct9), sl9⟩) (c9 : PySem.W.codeIn K cd9 "need_length" = true) (k9 : PySem.W.keepIn K (.ref f9) = true)
    (a10 : PySem.W.nsIn K mainGlobals "rounds_in" = some (some (.ref f10))) (l10 : K.lookup f10 = some ⟨oc10, od10, .func (PySem.W.fnOf "rounds_in" "rounds_in" (defArgs s_rounds_in) (defBody s_rounds_in) (defScope s_rounds_in) .none kV10 dc10 pm10 an10 cd10 ct10), sl10⟩) (c10 : PySem.W.codeIn K cd10 "rounds_in" = true) (k10 : PySem.W.keepIn K (.ref f10) = true)
    (a11 : PySem.W.nsIn K mainGlobals "words_in" = some (some (.ref f11))) (l11 : K.lookup f11 = some ⟨oc11, od11, .func (PySem.W.fnOf "words_in" "words_in" (defArgs s_words_in) (defBody s_words_in) (defScope s_words_in) .none kV11 dc11 pm11 an11 cd11 ct11), sl11⟩) (c11 : PySem.W.codeIn K cd11 "words_in" = true) (k11 : PySem.W.keepIn K (.ref f11) = true)
    (a12 : PySem.W.nsIn K mainGlobals "is_mixed" = some (some (.ref f12))) (l12 : K.lookup f12 = some ⟨oc12, od12, .func (PySem.W.fnOf "is_mixed" "is_mixed" (defArgs s_is_mixed) (defBody s_is_mixed) (defScope s_is_mixed) .none kV12 dc12 pm12 an12 cd12 ct12), sl12⟩) (c12 : PySem.W.codeIn K cd12 "is_mixed" = true) (k12 : PySem.W.keepIn K (.ref f12) = true)
    (a13 : PySem.W.nsIn K mainGlobals "holds_in" = some (some (.ref f13))) (l13 : K.lookup f13 = some ⟨oc13, od13, .func (PySem.W.fnOf "holds_in" "holds_in" (defArgs s_holds_in) (defBody s_holds_in) (defScope s_holds_in) .none kV13 dc13 pm13 an13 cd13 ct13), sl13⟩) (c13 : PySem.W.codeIn K cd13 "holds_in" = true) (k13 : PySem.W.keepIn K (.ref f13) = true)
    (a14 : PySem.W.nsIn K mainGlobals "holding_in" = some (some (.ref f14))) (l14 : K.lookup f14 = some ⟨oc14, od14, .func (PySem.W.fnOf "holding_in" "holding_in" (defArgs s_holding_in) (defBody s_holding_in) (defScope s_holding_in) .none kV14 dc14 pm14 an14 cd14 ct14), sl14⟩) (c14 : PySem.W.codeIn K cd14 "holding_in" = true) (k14 : PySem.W.keepIn K (.ref f14) = true)
    (a15 : PySem.W.nsIn K mainGlobals "rounds_to_hold" = some (some (.ref f15))) (l15 : K.lookup f15 = some ⟨oc15, od15, .func (PySem.W.fnOf "rounds_to_hold" "rounds_to_hold" (defArgs s_rounds_to_hold) (defBody s_rounds_to_hold) (defScope s_rounds_to_hold) .none kV15 dc15 pm15 an15 cd15 ct15), sl15⟩) (c15 : PySem.W.codeIn K cd15 "rounds_to_hold" = true) (k15 : PySem.W.keepIn K (.ref f15) = true)
    (a16 : PySem.W.nsIn K mainGlobals "holding_many" = some (some (.ref f16))) (l16 : K.lookup f16 = some ⟨oc16, od16, .func (PySem.W.fnOf "holding_many" "holding_many" (defArgs s_holding_many) (defBody s_holding_many) (defScope s_holding_many) .none kV16 dc16 pm16 an16 cd16 ct16), sl16⟩) (c16 : PySem.W.codeIn K cd16 "holding_many" = true) (k16 : PySem.W.keepIn K (.ref f16) = true)
    (a17 : PySem.W.nsIn K mainGlobals "first_holding" = some (some (.ref f17))) (l17 : K.lookup f17 = some ⟨oc17, od17, .func (PySem.W.fnOf "first_holding" "first_holding" (defArgs s_first_holding) (defBody s_first_holding) (defScope s_first_holding) .none kV17 dc17 pm17 an17 cd17 ct17), sl17⟩) (c17 : PySem.W.codeIn K cd17 "first_holding" = true) (k17 : PySem.W.keepIn K (.ref f17) = true)
    (a18 : PySem.W.nsIn K mainGlobals "never_holding" = some (some (.ref f18))) (l18 : K.lookup f18 = some ⟨oc18, od18, .func (PySem.W.fnOf "never_holding" "never_holding" (defArgs s_never_holding) (defBody s_never_holding) (defScope s_never_holding) .none kV18 dc18 pm18 an18 cd18 ct18), sl18⟩) (c18 : PySem.W.codeIn K cd18 "never_holding" = true) (k18 : PySem.W.keepIn K (.ref f18) = true)
    (a19 : PySem.W.nsIn K mainGlobals "unlike_rounds" = some (some (.ref f19))) (l19 : K.lookup f19 = some ⟨oc19, od19, .func (PySem.W.fnOf "unlike_rounds" "unlike_rounds" (defArgs s_unlike_rounds) (defBody s_unlike_rounds) (defScope s_unlike_rounds) .none kV19 dc19 pm19 an19 cd19 ct19), sl19⟩) (c19 : PySem.W.codeIn K cd19 "unlike_rounds" = true) (k19 : PySem.W.keepIn K (.ref f19) = true)
    (a20 : PySem.W.nsIn K mainGlobals "loose_behind" = some (some (.ref f20))) (l20 : K.lookup f20 = some ⟨oc20, od20, .func (PySem.W.fnOf "loose_behind" "loose_behind" (defArgs s_loose_behind) (defBody s_loose_behind) (defScope s_loose_behind) .none kV20 dc20 pm20 an20 cd20 ct20), sl20⟩) (c20 : PySem.W.codeIn K cd20 "loose_behind" = true) (k20 : PySem.W.keepIn K (.ref f20) = true)
    (a21 : PySem.W.nsIn K mainGlobals "loose_counts" = some (some (.ref f21))) (l21 : K.lookup f21 = some ⟨oc21, od21, .func (PySem.W.fnOf "loose_counts" "loose_counts" (defArgs s_loose_counts) (defBody s_loose_counts) (defScope s_loose_counts) .none kV21 dc21 pm21 an21 cd21 ct21), sl21⟩) (c21 : PySem.W.codeIn K cd21 "loose_counts" = true) (k21 : PySem.W.keepIn K (.ref f21) = true)
    (a22 : PySem.W.nsIn K mainGlobals "_law_cup" = some (some (.ref f22))) (l22 : K.lookup f22 = some ⟨oc22, od22, .func (PySem.W.fnOf "_law_cup" "_law_cup" (defArgs s__law_cup) (defBody s__law_cup) (defScope s__law_cup) .none kV22 dc22 pm22 an22 cd22 ct22), sl22⟩) (c22 : PySem.W.codeIn K cd22 "_law_cup" = true) (k22 : PySem.W.keepIn K (.ref f22) = true)
    (a23 : PySem.W.nsIn K mainGlobals "_law_roll" = some (some (.ref f23))) (l23 : K.lookup f23 = some ⟨oc23, od23, .func (PySem.W.fnOf "_law_roll" "_law_roll" (defArgs s__law_roll) (defBody s__law_roll) (defScope s__law_roll) .none kV23 dc23 pm23 an23 cd23 ct23), sl23⟩) (c23 : PySem.W.codeIn K cd23 "_law_roll" = true) (k23 : PySem.W.keepIn K (.ref f23) = true)
    (a24 : PySem.W.nsIn K mainGlobals "_law_some" = some (some (.ref f24))) (l24 : K.lookup f24 = some ⟨oc24, od24, .func (PySem.W.fnOf "_law_some" "_law_some" (defArgs s__law_some) (defBody s__law_some) (defScope s__law_some) .none kV24 dc24 pm24 an24 cd24 ct24), sl24⟩) (c24 : PySem.W.codeIn K cd24 "_law_some" = true) (k24 : PySem.W.keepIn K (.ref f24) = true)
    (a25 : PySem.W.nsIn K mainGlobals "_law_same" = some (some (.ref f25))) (l25 : K.lookup f25 = some ⟨oc25, od25, .func (PySem.W.fnOf "_law_same" "_law_same" (defArgs s__law_same) (defBody s__law_same) (defScope s__law_same) .none kV25 dc25 pm25 an25 cd25 ct25), sl25⟩) (c25 : PySem.W.codeIn K cd25 "_law_same" = true) (k25 : PySem.W.keepIn K (.ref f25) = true)
    (a26 : PySem.W.nsIn K mainGlobals "_law_signs" = some (some (.ref f26))) (l26 : K.lookup f26 = some ⟨oc26, od26, .func (PySem.W.fnOf "_law_signs" "_law_signs" (defArgs s__law_signs) (defBody s__law_signs) (defScope s__law_signs) .none kV26 dc26 pm26 an26 cd26 ct26), sl26⟩) (c26 : PySem.W.codeIn K cd26 "_law_signs" = true) (k26 : PySem.W.keepIn K (.ref f26) = true)
    (a27 : PySem.W.nsIn K mainGlobals "_law_wound" = some (some (.ref f27))) (l27 : K.lookup f27 = some ⟨oc27, od27, .func (PySem.W.fnOf "_law_wound" "_law_wound" (defArgs s__law_wound) (defBody s__law_wound) (defScope s__law_wound) .none kV27 dc27 pm27 an27 cd27 ct27), sl27⟩) (c27 : PySem.W.codeIn K cd27 "_law_wound" = true) (k27 : PySem.W.keepIn K (.ref f27) = true)
    (a28 : PySem.W.nsIn K mainGlobals "_law_went" = some (some (.ref f28))) (l28 : K.lookup f28 = some ⟨oc28, od28, .func (PySem.W.fnOf "_law_went" "_law_went" (defArgs s__law_went) (defBody s__law_went) (defScope s__law_went) .none kV28 dc28 pm28 an28 cd28 ct28), sl28⟩) (c28 : PySem.W.codeIn K cd28 "_law_went" = true) (k28 : PySem.W.keepIn K (.ref f28) = true)
    (a29 : PySem.W.nsIn K mainGlobals "_law_words" = some (some (.ref f29))) (l29 : K.lookup f29 = some ⟨oc29, od29, .func (PySem.W.fnOf "_law_words" "_law_words" (defArgs s__law_words) (defBody s__law_words) (defScope s__law_words) .none kV29 dc29 pm29 an29 cd29 ct29), sl29⟩) (c29 : PySem.W.codeIn K cd29 "_law_words" = true) (k29 : PySem.W.keepIn K (.ref f29) = true)
    (a30 : PySem.W.nsIn K mainGlobals "_law_loose" = some (some (.ref f30))) (l30 : K.lookup f30 = some ⟨oc30, od30, .func (PySem.W.fnOf "_law_loose" "_law_loose" (defArgs s__law_loose) (defBody s__law_loose) (defScope s__law_loose) .none kV30 dc30 pm30 an30 cd30 ct30), sl30⟩) (c30 : PySem.W.codeIn K cd30 "_law_loose" = true) (k30 : PySem.W.keepIn K (.ref f30) = true)
    (a31 : PySem.W.nsIn K mainGlobals "_law_right" = some (some (.ref f31))) (l31 : K.lookup f31 = some ⟨oc31, od31, .func (PySem.W.fnOf "_law_right" "_law_right" (defArgs s__law_right) (defBody s__law_right) (defScope s__law_right) .none kV31 dc31 pm31 an31 cd31 ct31), sl31⟩) (c31 : PySem.W.codeIn K cd31 "_law_right" = true) (k31 : PySem.W.keepIn K (.ref f31) = true)
    (a32 : PySem.W.nsIn K mainGlobals "law" = some (some (.ref f32))) (l32 : K.lookup f32 = some ⟨oc32, od32, .func (PySem.W.fnOf "law" "law" (defArgs s_law) (defBody s_law) (defScope s_law) .none kV32 dc32 pm32 an32 cd32 ct32), sl32⟩) (c32 : PySem.W.codeIn K cd32 "law" = true) (k32 : PySem.W.keepIn K (.ref f32) = true)
    (z_abs : PySem.W.nsIn K mainGlobals "abs" = some none)
    (z_all : PySem.W.nsIn K mainGlobals "all" = some none)
    (z_bool : PySem.W.nsIn K mainGlobals "bool" = some none)
    (z_enumerate : PySem.W.nsIn K mainGlobals "enumerate" = some none)
    (z_int : PySem.W.nsIn K mainGlobals "int" = some none)
    (z_isinstance : PySem.W.nsIn K mainGlobals "isinstance" = some none)
    (z_len : PySem.W.nsIn K mainGlobals "len" = some none)
    (z_list : PySem.W.nsIn K mainGlobals "list" = some none)
    (z_range : PySem.W.nsIn K mainGlobals "range" = some none)
    (z_set : PySem.W.nsIn K mainGlobals "set" = some none)
    (z_str : PySem.W.nsIn K mainGlobals "str" = some none)
    (z_tuple : PySem.W.nsIn K mainGlobals "tuple" = some none)
    {t_HIGH : Tok} (g_HIGH : PySem.W.nsIn K mainGlobals "HIGH" = some (some (.int 40 t_HIGH)))
    {t_LEAST : Tok} (g_LEAST : PySem.W.nsIn K mainGlobals "LEAST" = some (some (.int 3 t_LEAST)))
    {t_LONG : Tok} (g_LONG : PySem.W.nsIn K mainGlobals "LONG" = some (some (.int 8 t_LONG)))
    {t_SIGNS : Tok} (g_SIGNS : PySem.W.nsIn K mainGlobals "SIGNS" = some (some (.str "io" t_SIGNS)))
    {t_STAKES : Tok} (g_STAKES : PySem.W.nsIn K mainGlobals "STAKES" = some (some (.int 24 t_STAKES)))
    {t_WORD : Tok} (g_WORD : PySem.W.nsIn K mainGlobals "WORD" = some (some (.int 12 t_WORD))) :
    ∃ fd : FuncData, (∀ (s : Shared) (v : Value), BindsTo s fd ⟨[v], []⟩ [("script", v)]) ∧ ∀ base : Heap, K.In base → base.Ns mainGlobals mg → FnOk l.prog w K mg base CX0 10 fa fd ["script"] (spLaw K) := by
  have e := hfa.symm.trans (PySem.W.mg_of X G a32)
  cases e
  refine ⟨PySem.W.fnOf "law" "law" (defArgs s_law) (defBody s_law) (defScope s_law) .none kV32 dc32 pm32 an32 cd32 ct32, fun s v => .of_eq rfl, fun base _ _ => ?_⟩
  exact ok_law (T := { a_is_whole := f0, d_is_whole := _, F_is_whole := fun_mk (st := s_is_whole) l0 c0 k0, m_is_whole := PySem.W.mg_of X G a0, a_fits_whole := f1, d_fits_whole := _, F_fits_whole := fun_mk (st := s_fits_whole) l1 c1 k1, m_fits_whole := PySem.W.mg_of X G a1, a_fits_signs := f2, d_fits_signs := _, F_fits_signs := fun_mk (st := s_fits_signs) l2 c2 k2, m_fits_signs := PySem.W.mg_of X G a2, a_fits_word := f3, d_fits_word := _, F_fits_word := fun_mk (st := s_fits_word) l3 c3 k3, m_fits_word := PySem.W.mg_of X G a3, a_need_word := f4, d_need_word := _, F_need_word := fun_mk (st := s_need_word) l4 c4 k4, m_need_word := PySem.W.mg_of X G a4, a_need_stakes := f5, d_need_stakes := _, F_need_stakes := fun_mk (st := s_need_stakes) l5 c5 k5, m_need_stakes := PySem.W.mg_of X G a5, a_wound_in := f6, d_wound_in := _, F_wound_in := fun_mk (st := s_wound_in) l6 c6 k6, m_wound_in := PySem.W.mg_of X G a6, a_columns_in := f7, d_columns_in := _, F_columns_in := fun_mk (st := s_columns_in) l7 c7 k7, m_columns_in := PySem.W.mg_of X G a7, a_need_rounds := f8, d_need_rounds := _, F_need_rounds := fun_mk (st := s_need_rounds) l8 c8 k8, m_need_rounds := PySem.W.mg_of X G a8, a_need_length := f9, d_need_length := _, F_need_length := fun_mk (st := s_need_length) l9 c9 k9, m_need_length := PySem.W.mg_of X G a9, a_rounds_in := f10, d_rounds_in := _, F_rounds_in := fun_mk (st := s_rounds_in) l10 c10 k10, m_rounds_in := PySem.W.mg_of X G a10, a_words_in := f11, d_words_in := _, F_words_in := fun_mk (st := s_words_in) l11 c11 k11, m_words_in := PySem.W.mg_of X G a11, a_is_mixed := f12, d_is_mixed := _, F_is_mixed := fun_mk (st := s_is_mixed) l12 c12 k12, m_is_mixed := PySem.W.mg_of X G a12, a_holds_in := f13, d_holds_in := _, F_holds_in := fun_mk (st := s_holds_in) l13 c13 k13, m_holds_in := PySem.W.mg_of X G a13, a_holding_in := f14, d_holding_in := _, F_holding_in := fun_mk (st := s_holding_in) l14 c14 k14, m_holding_in := PySem.W.mg_of X G a14, a_rounds_to_hold := f15, d_rounds_to_hold := _, F_rounds_to_hold := fun_mk (st := s_rounds_to_hold) l15 c15 k15, m_rounds_to_hold := PySem.W.mg_of X G a15, a_holding_many := f16, d_holding_many := _, F_holding_many := fun_mk (st := s_holding_many) l16 c16 k16, m_holding_many := PySem.W.mg_of X G a16, a_first_holding := f17, d_first_holding := _, F_first_holding := fun_mk (st := s_first_holding) l17 c17 k17, m_first_holding := PySem.W.mg_of X G a17, a_never_holding := f18, d_never_holding := _, F_never_holding := fun_mk (st := s_never_holding) l18 c18 k18, m_never_holding := PySem.W.mg_of X G a18, a_unlike_rounds := f19, d_unlike_rounds := _, F_unlike_rounds := fun_mk (st := s_unlike_rounds) l19 c19 k19, m_unlike_rounds := PySem.W.mg_of X G a19, a_loose_behind := f20, d_loose_behind := _, F_loose_behind := fun_mk (st := s_loose_behind) l20 c20 k20, m_loose_behind := PySem.W.mg_of X G a20, a_loose_counts := f21, d_loose_counts := _, F_loose_counts := fun_mk (st := s_loose_counts) l21 c21 k21, m_loose_counts := PySem.W.mg_of X G a21, a__law_cup := f22, d__law_cup := _, F__law_cup := fun_mk (st := s__law_cup) l22 c22 k22, m__law_cup := PySem.W.mg_of X G a22, a__law_roll := f23, d__law_roll := _, F__law_roll := fun_mk (st := s__law_roll) l23 c23 k23, m__law_roll := PySem.W.mg_of X G a23, a__law_some := f24, d__law_some := _, F__law_some := fun_mk (st := s__law_some) l24 c24 k24, m__law_some := PySem.W.mg_of X G a24, a__law_same := f25, d__law_same := _, F__law_same := fun_mk (st := s__law_same) l25 c25 k25, m__law_same := PySem.W.mg_of X G a25, a__law_signs := f26, d__law_signs := _, F__law_signs := fun_mk (st := s__law_signs) l26 c26 k26, m__law_signs := PySem.W.mg_of X G a26, a__law_wound := f27, d__law_wound := _, F__law_wound := fun_mk (st := s__law_wound) l27 c27 k27, m__law_wound := PySem.W.mg_of X G a27, a__law_went := f28, d__law_went := _, F__law_went := fun_mk (st := s__law_went) l28 c28 k28, m__law_went := PySem.W.mg_of X G a28, a__law_words := f29, d__law_words := _, F__law_words := fun_mk (st := s__law_words) l29 c29 k29, m__law_words := PySem.W.mg_of X G a29, a__law_loose := f30, d__law_loose := _, F__law_loose := fun_mk (st := s__law_loose) l30 c30 k30, m__law_loose := PySem.W.mg_of X G a30, a__law_right := f31, d__law_right := _, F__law_right := fun_mk (st := s__law_right) l31 c31 k31, m__law_right := PySem.W.mg_of X G a31, a_law := _, d_law := _, F_law := fun_mk (st := s_law) l32 c32 k32, m_law := PySem.W.mg_of X G a32, b_abs := PySem.W.mg_none_of X G z_abs, b_all := PySem.W.mg_none_of X G z_all, b_bool := PySem.W.mg_none_of X G z_bool, b_enumerate := PySem.W.mg_none_of X G z_enumerate, b_int := PySem.W.mg_none_of X G z_int, b_isinstance := PySem.W.mg_none_of X G z_isinstance, b_len := PySem.W.mg_none_of X G z_len, b_list := PySem.W.mg_none_of X G z_list, b_range := PySem.W.mg_none_of X G z_range, b_set := PySem.W.mg_none_of X G z_set, b_str := PySem.W.mg_none_of X G z_str, b_tuple := PySem.W.mg_none_of X G z_tuple, t_HIGH := t_HIGH, c_HIGH := PySem.W.mg_of X G g_HIGH, t_LEAST := t_LEAST, c_LEAST := PySem.W.mg_of X G g_LEAST, t_LONG := t_LONG, c_LONG := PySem.W.mg_of X G g_LONG, t_SIGNS := t_SIGNS, c_SIGNS := PySem.W.mg_of X G g_SIGNS, t_STAKES := t_STAKES, c_STAKES := PySem.W.mg_of X G g_STAKES, t_WORD := t_WORD, c_WORD := PySem.W.mg_of X G g_WORD })
end Wk
open PySem PySem.W PyProof.Rows
set_option maxHeartbeats 0 in
theorem PySem.Challenge.cw_wickerwork_k79_whole_words_that_hold_holds : PySem.Challenge.rw_wickerwork_k79_whole_words_that_hold.Holds := by
  w_on; o_law; k_head; (case hw => w_witness2)
  k_fill
  refine L2.walk_of (l := PySem.Challenge.rw_wickerwork_k79_whole_words_that_hold) (n := 63) (k := 10) (x := "script") (CX := fun _ => L2.CX0) (sp := fun w => Wk.spLaw _) rfl (by decide) rfl ⟨rfl, by decide, by decide⟩ (fun w h Y => PySem.W.kIn_of Y) ?F (fun _ _ a ns hl _ hS => ⟨a, ns, rfl, hS, hl, fun _ => rfl⟩) (fun _ _ _ _ _ h => h)
  case F =>
    intro w mg fa h KX G hmg
    refine' Wk.all_mk KX G hmg ?a0 ?l0 ?c0 ?k0 ?a1 ?l1 ?c1 ?k1 ?a2 ?l2 ?c2 ?k2 ?a3 ?l3 ?c3 ?k3 ?a4 ?l4 ?c4 ?k4 ?a5 ?l5 ?c5 ?k5 ?a6 ?l6 ?c6 ?k6 ?a7 ?l7 ?c7 ?k7 ?a8 ?l8 ?c8 ?k8 ?a9 ?l9 ?c9 ?k9 ?a10 ?l10 ?c10 ?k10 ?a11 ?l11 ?c11 ?k11 ?a12 ?l12 ?c12 ?k12 ?a13 ?l13 ?c13 ?k13 ?a14 ?l14 ?c14 ?k14 ?a15 ?l15 ?c15 ?k15 ?a16 ?l16 ?c16 ?k16 ?a17 ?l17 ?c17 ?k17 ?a18 ?l18 ?c18 ?k18 ?a19 ?l19 ?c19 ?k19 ?a20 ?l20 ?c20 ?k20 ?a21 ?l21 ?c21 ?k21 ?a22 ?l22 ?c22 ?k22 ?a23 ?l23 ?c23 ?k23 ?a24 ?l24 ?c24 ?k24 ?a25 ?l25 ?c25 ?k25 ?a26 ?l26 ?c26 ?k26 ?a27 ?l27 ?c27 ?k27 ?a28 ?l28 ?c28 ?k28 ?a29 ?l29 ?c29 ?k29 ?a30 ?l30 ?c30 ?k30 ?a31 ?l31 ?c31 ?k31 ?a32 ?l32 ?c32 ?k32 ?z_abs ?z_all ?z_bool ?z_enumerate ?z_int ?z_isinstance ?z_len ?z_list ?z_range ?z_set ?z_str ?z_tuple ?g_HIGH ?g_LEAST ?g_LONG ?g_SIGNS ?g_STAKES ?g_WORD
    (case a0 => k_is); (case l0 => k_is); (case c0 => k_is); (case k0 => k_is); (case a1 => k_is); (case l1 => k_is); (case c1 => k_is); (case k1 => k_is); (case a2 => k_is); (case l2 => k_is); (case c2 => k_is); (case k2 => k_is); (case a3 => k_is); (case l3 => k_is); (case c3 => k_is); (case k3 => k_is); (case a4 => k_is); (case l4 => k_is); (case c4 => k_is); (case k4 => k_is); (case a5 => k_is); (case l5 => k_is); (case c5 => k_is); (case k5 => k_is); (case a6 => k_is); (case l6 => k_is); (case c6 => k_is); (case k6 => k_is); (case a7 => k_is); (case l7 => k_is); (case c7 => k_is); (case k7 => k_is); (case a8 => k_is); (case l8 => k_is); (case c8 => k_is); (case k8 => k_is); (case a9 => k_is); (case l9 => k_is); (case c9 => k_is); (case k9 => k_is); (case a10 => k_is); (case l10 => k_is); (case c10 => k_is); (case k10 => k_is); (case a11 => k_is); (case l11 => k_is); (case c11 => k_is); (case k11 => k_is); (case a12 => k_is); (case l12 => k_is); (case c12 => k_is); (case k12 => k_is); (case a13 => k_is); (case l13 => k_is); (case c13 => k_is); (case k13 => k_is); (case a14 => k_is); (case l14 => k_is); (case c14 => k_is); (case k14 => k_is); (case a15 => k_is); (case l15 => k_is); (case c15 => k_is); (case k15 => k_is); (case a16 => k_is); (case l16 => k_is); (case c16 => k_is); (case k16 => k_is); (case a17 => k_is); (case l17 => k_is); (case c17 => k_is); (case k17 => k_is); (case a18 => k_is); (case l18 => k_is); (case c18 => k_is); (case k18 => k_is); (case a19 => k_is); (case l19 => k_is); (case c19 => k_is); (case k19 => k_is); (case a20 => k_is); (case l20 => k_is); (case c20 => k_is); (case k20 => k_is); (case a21 => k_is); (case l21 => k_is); (case c21 => k_is); (case k21 => k_is); (case a22 => k_is); (case l22 => k_is); (case c22 => k_is); (case k22 => k_is); (case a23 => k_is); (case l23 => k_is); (case c23 => k_is); (case k23 => k_is); (case a24 => k_is); (case l24 => k_is); (case c24 => k_is); (case k24 => k_is); (case a25 => k_is); (case l25 => k_is); (case c25 => k_is); (case k25 => k_is); (case a26 => k_is); (case l26 => k_is); (case c26 => k_is); (case k26 => k_is); (case a27 => k_is); (case l27 => k_is); (case c27 => k_is); (case k27 => k_is); (case a28 => k_is); (case l28 => k_is); (case c28 => k_is); (case k28 => k_is); (case a29 => k_is); (case l29 => k_is); (case c29 => k_is); (case k29 => k_is); (case a30 => k_is); (case l30 => k_is); (case c30 => k_is); (case k30 => k_is); (case a31 => k_is); (case l31 => k_is); (case c31 => k_is); (case k31 => k_is); (case a32 => k_is); (case l32 => k_is); (case c32 => k_is); (case k32 => k_is); (case z_abs => k_is); (case z_all => k_is); (case z_bool => k_is); (case z_enumerate => k_is); (case z_int => k_is); (case z_isinstance => k_is); (case z_len => k_is); (case z_list => k_is); (case z_range => k_is); (case z_set => k_is); (case z_str => k_is); (case z_tuple => k_is); (case g_HIGH => k_is); (case g_LEAST => k_is); (case g_LONG => k_is); (case g_SIGNS => k_is); (case g_STAKES => k_is); (case g_WORD => k_is)
