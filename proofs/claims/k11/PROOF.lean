import PyProof.Rows.All
import Wide.All
import OpenK.AllK
import Wide.FinOn
import HandS.ForMost
import HandS.Wide
import HandS.TupAny
import HandS.TupMul
import HandS.Lambda
import KE.DataEq
import KE.LtData
import KE.DataMinMax
import KE.SortData
import HandS.Text
import HandS.IsInst
import HandS.Conv
import PyProof.Transfer
import PyProof.TupleOfSeq
import HandS.Walk
import HandS.More
import HandS.Dict
import HandS.DictComp
import HandS.WordsDict
import HandS.Zip
import KE.GoesEnum
import KE.GoesMore
import HandS.Style
import HandS.Ends
import KE.KRevSl
import PyProof.MaxThree
import HandS.SetFor
import HandS.Strs
import HandS.Iter
import KE.KDictPairs
import KE.KDictZip
import PyProof.SumAny
import PyProof.ListOps
import HandS.Deep
import KE.SortKeyHeap
import KE.KLam
import HandS.EndTab
import HandS.EndOwn
import PySem.Challenge.RW_warmwheel_k11_written_cases_and_names
set_option Elab.async false
set_option linter.all false
set_option maxRecDepth 100000
set_option autoImplicit false
namespace Pv
open PySem L2 PySem.Spec PyProof.Rows
/-- the tuple, or the tuple and its object -/
def tupO (c : Bool) (o : Obj) (xs : List V) : HO := if c = true then .frz o (.tup xs) else .tup xs
theorem tupO_rd {H : Hp} {a : Addr} {c : Bool} {o : Obj} {xs : List V} (h : H a = some (tupO c o xs)) : Rd H a (.tup xs) := by
  cases c with
  | true => exact .inr ⟨o, h⟩
  | false => exact .inl h
theorem tupO_ok {P : Program} {w : World} {H : Hp} {h : Heap} {p : Addr} {c : Bool} {xs : List V} {its : List Value} (hg : h.get? p = some { cls := .type "tuple", data := .seq its.toArray }) (r : Vals xs its) (hz : xs.length ≤ sizeLine) :
    ObjOk P w H h p (tupO c { cls := .type "tuple", data := .seq its.toArray } xs) := by
  have z : ObjOk P w H h p (.tup xs) := ⟨hz, its, r, _, hg, rfl, _, rfl⟩
  cases c with
  | true => exact ⟨hg, z⟩
  | false => exact z
/-- a new one: what follows with it -/
def NewT (xs : List V) (H : Hp) (Q : VK) : Prop := ∃ c : Bool, ∀ (p : Addr) (o : Obj), H p = none → o.dict = none → Q (.ref p) (upd H p (tupO c o xs))
section
variable {X : Cx}
theorem NewT.at {pins : List (Addr × Obj)} {p : Addr} {σ : L2.St} {H : Hp} {s : Shared} {xs : List V} {its : List Value} {Q : VK} {k : Heap} {t : Nat} (I : Inv X pins σ H s) (hk : ∀ b o, s.heap.get? b = some o → k.get? b = some o) (hp : s.heap.objs.size ≤ p)
    (hg : k.get? p = some { cls := .type "tuple", data := .seq its.toArray }) (r : Vals xs its) (hz : xs.length ≤ sizeLine) (q : NewT xs H Q) : EP X pins σ Q (.ref p) { s with heap := k, toks := t } := by
  obtain ⟨c, q⟩ := q
  exact ⟨.ref p, _, I.laid (t' := t) hk hp (tupO_ok (c := c) hg r hz), rfl, q p _ (I.hok.fresh hp) rfl⟩
theorem pe_tupN {es : List Expr} {t : TA} {x1 : Nat} {pos : Pos} (h : PA X es t) : PE X (.Tuple es x1 pos) (fun σ H Q => t σ H fun xs H1 => xs.length ≤ sizeLine ∧ NewT xs H1 Q) :=
  ⟨fun pins s σ H Q I hq => wpAny_Tuple_spliced (thn (h.run pos pins s σ H _ I hq) fun us z ⟨xs, H1, I1, r, hz, q⟩ => And.intro (by rw [← r.length]; exact hz) (NewT.at I1 (t := z.toks) (fun b o e => Heap.get?_push_of_some _ e) (Nat.le_refl _) (Heap.get?_push_size _ rfl) r hz q))⟩
/-- tuple(xs) -/
def rTupN (K : PySem.W.Frag) : List V → Hp → VK → Prop := fun xs H Q => ∃ p ys, xs = [V.ref p] ∧ ((SqL K H p ys ∧ NewT ys H Q) ∨ (SqT K H p ys ∧ Q (.ref p) H))
theorem call_tupN : CallR X (.type "tuple") (rTupN X.K) := fun pins s σ H xs us Q I r h => by
  obtain ⟨p, ys, rfl, h⟩ := h
  rw [Vals.ref1 r]
  rcases h with ⟨hq, q⟩ | ⟨hq, q⟩
  · obtain ⟨its, rv, pl, hz⟩ := I.list hq
    have len : its.toArray.size ≤ sizeLine := by rw [List.size_toArray, ← rv.length]; exact hz
    exact call_tuple_list pl.isList (fun k hk => NewT.at (s := { s with heap := k }) (show Inv X pins σ H { s with heap := k } from I.kept (t' := s.toks) hk) (t := s.toks) (fun b o e => Heap.get?_push_of_some _ e) (Nat.le_refl _) (Heap.get?_push_size _ rfl) rv hz q) len
  · obtain ⟨its, _, pl, _⟩ := I.tuple hq
    exact call_tuple_same pl ⟨.ref p, H, I, rfl, q⟩
/-- t + u -/
def rCatN (K : PySem.W.Frag) : R2 := fun x y H Q => ∃ a b xs ys, x = .ref a ∧ y = .ref b ∧ SqT K H a xs ∧ SqT K H b ys ∧ xs.length + ys.length ≤ sizeLine ∧
  (xs = [] → Q (.ref b) H) ∧ (xs ≠ [] → ys = [] → Q (.ref a) H) ∧ (xs ≠ [] → ys ≠ [] → NewT (xs ++ ys) H Q)
theorem op_catN : OpR X (binaryOp .Add) (rCatN X.K) := fun pins s σ H x y v u Q I rx ry h => by
  obtain ⟨a, b, xs, ys, rfl, rfl, ha, hb, hz, q0, q1, q2⟩ := h
  cases rx
  cases ry
  obtain ⟨i1, r1, p1, _⟩ := I.tuple ha
  obtain ⟨i2, r2, p2, _⟩ := I.tuple hb
  by_cases e1 : xs = []
  · subst e1
    cases r1
    exact cat_tup0 p1 p2 ⟨.ref b, H, I, rfl, q0 rfl⟩
  · have n1 : i1 ≠ [] := fun z => e1 (r1.nil_iff.mp z)
    refine HT.cat_tup p1 p2 n1 (fun z => ⟨.ref a, H, I, rfl, q1 e1 (r2.nil_iff.mp z)⟩) (fun z => ?_) (by rw [← r1.length, ← r2.length]; exact hz)
    exact NewT.at I (t := s.toks) (fun b o e => Heap.get?_push_of_some _ e) (Nat.le_refl _) (Heap.get?_push_size _ rfl) (r1.append r2) (by rw [List.length_append]; exact hz) (q2 e1 fun w => z (r2.nil_iff.mpr w))
/-- t[lo:hi] -/
def rSlN (K : PySem.W.Frag) : V → Option Int → Option Int → Hp → VK → Prop := fun x lo hi H Q => ∃ a xs, x = .ref a ∧ SqT K H a xs ∧
  (HT.sIx xs.length 0 lo = 0 ∧ HT.sIx xs.length xs.length hi = xs.length → Q (.ref a) H) ∧ (¬ (HT.sIx xs.length 0 lo = 0 ∧ HT.sIx xs.length xs.length hi = xs.length) → NewT (cutV xs lo hi) H Q)
theorem sl_tupN : SlR X (rSlN X.K) := fun pins s σ H x v vl vu lo hi sl Q I rx hs pl pu h => by
  obtain ⟨a, xs, rfl, hx, q1, q2⟩ := h
  cases rx
  obtain ⟨its, r, ht, hz⟩ := I.tuple hx
  have len : its.toArray.size = xs.length := by rw [List.size_toArray]; exact r.length.symm
  refine ⟨"tuple", _, slot_tuple_getitem.lookup, ht.typeIs, ?_⟩
  by_cases hw : HT.sIx xs.length 0 lo = 0 ∧ HT.sIx xs.length xs.length hi = xs.length
  · exact getItem_tuple_whole ht hs pl pu (len ▸ hw) ⟨.ref a, H, I, rfl, q1 hw⟩
  · refine HT.getItem_tuple_cut ht hs pl pu (by rw [len]; exact hw) ?_ (by rw [len]; exact hz)
    rw [len]
    exact NewT.at I (t := s.toks) (fun b o e => Heap.get?_push_of_some _ e) (Nat.le_refl _) (Heap.get?_push_size _ rfl) ((r.drop _).take _) (Nat.le_trans (cutV_length xs lo hi) hz) (q2 hw)
end
end Pv
namespace Pv
open PySem L2 PySem.Spec PyProof.Rows
abbrev D := PyData
/-- what a name holds: a datum that is shared (read only from then on), a list of one's own, a dict of one's own (int and text keys; tuple keys), the tape -/
inductive Vl where
  | sh (d : D) | ow (xs : List D) | dk (kvs : List (Key × D)) | dt (kvs : List (List Key × D)) | tp
/-- the tape: the script, the place, the cell -/
structure Tp where
  sc : List Int
  pos : Int
  cell : Int
abbrev Sl := L2.St
abbrev Ev := List (Option Vl)
/-- a pair of a text and a tuple -/
def isPr : D → Bool
  | .tuple [.str _, .tuple _] => true
  | _ => false
/-- such pairs, at least one: that tuple is kept to its object -/
def cmL (ds : List D) : Bool := !ds.isEmpty && ds.all isPr
def TupAt (H : Hp) (a : Addr) (xs : List V) (ds : List D) : Prop := ∃ o : Obj, o.dict = none ∧ H a = some (tupO (cmL ds) o xs)
theorem TupAt.mono {H H' : Hp} {a : Addr} {xs : List V} {ds : List D} (h : TupAt H a xs ds) (s : Same H H') : TupAt H' a xs ds := let ⟨o, h1, h2⟩ := h; ⟨o, h1, s _ _ h2⟩
theorem TupAt.rd {H : Hp} {a : Addr} {xs : List V} {ds : List D} (h : TupAt H a xs ds) : Rd H a (.tup xs) := let ⟨_, _, h2⟩ := h; tupO_rd h2
theorem TupAt.sq {K : PySem.W.Frag} {H : Hp} {a : Addr} {xs : List V} {ds : List D} (h : TupAt H a xs ds) : SqT K H a xs := .inl h.rd
theorem TupAt.raw {H : Hp} {a : Addr} {xs : List V} {ds : List D} (h : TupAt H a xs ds) (c : cmL ds = false) : H a = some (.tup xs) := by
  obtain ⟨o, _, h2⟩ := h
  rw [c] at h2
  exact h2
theorem TupAt.of {H : Hp} {a : Addr} {xs : List V} {ds : List D} (h : H a = some (.tup xs)) (c : cmL ds = false) : TupAt H a xs ds := ⟨default, rfl, by rw [c]; exact h⟩
mutual
inductive Rp (H : Hp) : V → D → Prop
  | non : Rp H .non .none
  | bl (b : Bool) : Rp H (.bl b) (.bool b)
  | int (i : Int) : Rp H (.int i) (.int i)
  | str (x : Str) : Rp H (.str x) (.str x)
  | lst {a : Addr} {xs : List V} {ds : List D} : H a = some (.lst xs) → xs.length ≤ sizeLine → Rps H xs ds → Rp H (.ref a) (.list ds)
  | tup {a : Addr} {xs : List V} {ds : List D} : TupAt H a xs ds → xs.length ≤ sizeLine → Rps H xs ds → Rp H (.ref a) (.tuple ds)
inductive Rps (H : Hp) : List V → List D → Prop
  | nil : Rps H [] []
  | cons {v : V} {vs : List V} {d : D} {ds : List D} : Rp H v d → Rps H vs ds → Rps H (v :: vs) (d :: ds)
end
mutual
theorem Rp.mono {H H' : Hp} (s : Same H H') : ∀ (d : D) (v : V), Rp H v d → Rp H' v d
  | .none, _, h => by cases h; exact .non
  | .bool b, _, h => by cases h; exact .bl b
  | .int i, _, h => by cases h; exact .int i
  | .str x, _, h => by cases h; exact .str x
  | .list ds, _, h => by
    cases h with
    | lst h1 h2 h3 => exact .lst (s _ _ h1) h2 (Rps.mono s ds _ h3)
  | .tuple ds, _, h => by
    cases h with
    | tup h1 h2 h3 => exact .tup (h1.mono s) h2 (Rps.mono s ds _ h3)
  | .dict _, _, h => by cases h
theorem Rps.mono {H H' : Hp} (s : Same H H') : ∀ (ds : List D) (vs : List V), Rps H vs ds → Rps H' vs ds
  | [], _, h => by cases h; exact .nil
  | d :: ds, _, h => by
    cases h with
    | cons h1 h2 => exact .cons (Rp.mono s d _ h1) (Rps.mono s ds _ h2)
end
theorem Rp.to {H H' : Hp} {v : V} {d : D} (h : Rp H v d) (s : Same H H') : Rp H' v d := Rp.mono s d v h
theorem Rps.to {H H' : Hp} {v : List V} {d : List D} (h : Rps H v d) (s : Same H H') : Rps H' v d := Rps.mono s d v h
mutual
theorem Rp.dp {K : PySem.W.Frag} {H : Hp} : ∀ (d : D) (v : V), Rp H v d → Dp K H v d
  | .none, _, h => by cases h; exact .non
  | .bool b, _, h => by cases h; exact .bl b
  | .int i, _, h => by cases h; exact .int i
  | .str x, _, h => by cases h; exact .str x
  | .list ds, _, h => by
    cases h with
    | lst h1 h2 h3 => exact .lst (.of h1) (Rps.dp ds _ h3)
  | .tuple ds, _, h => by
    cases h with
    | tup h1 h2 h3 => exact .tup h1.sq (Rps.dp ds _ h3)
  | .dict _, _, h => by cases h
theorem Rps.dp {K : PySem.W.Frag} {H : Hp} : ∀ (ds : List D) (vs : List V), Rps H vs ds → DpAll K H vs ds
  | [], _, h => by cases h; exact .nil
  | d :: ds, _, h => by
    cases h with
    | cons h1 h2 => exact .cons (Rp.dp d _ h1) (Rps.dp ds _ h2)
end
mutual
/-- no dict within -/
def pln : D → Bool
  | .none => true | .bool _ => true | .int _ => true | .str _ => true
  | .list xs => plns xs | .tuple xs => plns xs
  | .dict _ => false
def plns : List D → Bool
  | [] => true
  | x :: xs => pln x && plns xs
end
theorem Rps.len {H : Hp} : ∀ {vs : List V} {ds : List D}, Rps H vs ds → vs.length = ds.length
  | [], [], _ => rfl
  | _ :: vs, _ :: ds, h => by
    cases h with
    | cons _ h => rw [List.length_cons, List.length_cons, Rps.len h]
  | [], _ :: _, h => by cases h
  | _ :: _, [], h => by cases h
theorem Rps.get {H : Hp} : ∀ {vs : List V} {ds : List D} {i : Nat} {d : D}, Rps H vs ds → ds[i]? = some d → ∃ v, vs[i]? = some v ∧ Rp H v d
  | _, [], _, _, _, e => by simp at e
  | [], _ :: _, _, _, h, _ => by cases h
  | v :: vs, x :: ds, 0, d, h, e => by
    cases h with
    | cons h1 h2 => simp at e; subst e; exact ⟨v, rfl, h1⟩
  | v :: vs, x :: ds, i + 1, d, h, e => by
    cases h with
    | cons h1 h2 =>
      obtain ⟨w, e1, r⟩ := Rps.get (i := i) (d := d) h2 (by simpa using e)
      exact ⟨w, by simpa using e1, r⟩
theorem Rps.get' {H : Hp} {vs : List V} {ds : List D} {i : Nat} {v : V} (h : Rps H vs ds) (e : vs[i]? = some v) : ∃ d, ds[i]? = some d ∧ Rp H v d := by
  have hl := h.len
  have hi : i < vs.length := (List.getElem?_eq_some_iff.mp e).1
  have hd : ds[i]? = some (ds[i]'(by omega)) := List.getElem?_eq_getElem (by omega)
  obtain ⟨w, e1, r⟩ := h.get hd
  rw [e] at e1; cases e1
  exact ⟨_, hd, r⟩
theorem Rps.app {H : Hp} : ∀ {vs ws : List V} {ds es : List D}, Rps H vs ds → Rps H ws es → Rps H (vs ++ ws) (ds ++ es)
  | [], _, [], _, _, h => h
  | _ :: vs, _, _ :: ds, _, h, k => by
    cases h with
    | cons h1 h2 => exact .cons h1 (Rps.app h2 k)
  | [], _, _ :: _, _, h, _ => by cases h
  | _ :: _, _, [], _, h, _ => by cases h
theorem Rps.snoc {H : Hp} {vs : List V} {ds : List D} {v : V} {d : D} (h : Rps H vs ds) (k : Rp H v d) : Rps H (vs ++ [v]) (ds ++ [d]) := h.app (.cons k .nil)
theorem Rps.take {H : Hp} : ∀ {vs : List V} {ds : List D} (n : Nat), Rps H vs ds → Rps H (vs.take n) (ds.take n)
  | _, _, 0, _ => by simp; exact .nil
  | [], [], n + 1, _ => by simp; exact .nil
  | v :: vs, d :: ds, n + 1, h => by
    cases h with
    | cons h1 h2 => exact .cons h1 (Rps.take n h2)
  | [], _ :: _, _ + 1, h => by cases h
  | _ :: _, [], _ + 1, h => by cases h
theorem Rps.drop {H : Hp} : ∀ {vs : List V} {ds : List D} (n : Nat), Rps H vs ds → Rps H (vs.drop n) (ds.drop n)
  | _, _, 0, h => h
  | [], [], n + 1, _ => by simp; exact .nil
  | v :: vs, d :: ds, n + 1, h => by
    cases h with
    | cons h1 h2 => exact Rps.drop n h2
  | [], _ :: _, _ + 1, h => by cases h
  | _ :: _, [], _ + 1, h => by cases h
theorem Rps.rev {H : Hp} : ∀ {vs : List V} {ds : List D}, Rps H vs ds → Rps H vs.reverse ds.reverse
  | [], [], _ => .nil
  | v :: vs, d :: ds, h => by
    cases h with
    | cons h1 h2 => rw [List.reverse_cons, List.reverse_cons]; exact (Rps.rev h2).snoc h1
  | [], _ :: _, h => by cases h
  | _ :: _, [], h => by cases h
theorem Rps.set {H : Hp} {v : V} {d : D} (k : Rp H v d) : ∀ {vs : List V} {ds : List D} (i : Nat), Rps H vs ds → Rps H (vs.set i v) (ds.set i d)
  | [], [], _, _ => .nil
  | _ :: _, _ :: _, 0, h => by
    cases h with
    | cons h1 h2 => exact .cons k h2
  | _ :: _, _ :: _, i + 1, h => by
    cases h with
    | cons h1 h2 => exact .cons h1 (Rps.set k i h2)
  | [], _ :: _, _, h => by cases h
  | _ :: _, [], _, h => by cases h
theorem Rps.erase {H : Hp} : ∀ {vs : List V} {ds : List D} (i : Nat), Rps H vs ds → Rps H (vs.eraseIdx i) (ds.eraseIdx i)
  | [], [], _, _ => .nil
  | _ :: _, _ :: _, 0, h => by
    cases h with
    | cons h1 h2 => exact h2
  | _ :: _, _ :: _, i + 1, h => by
    cases h with
    | cons h1 h2 => exact .cons h1 (Rps.erase i h2)
  | [], _ :: _, _, h => by cases h
  | _ :: _, [], _, h => by cases h
theorem Rps.ins {H : Hp} {v : V} {d : D} (k : Rp H v d) {vs : List V} {ds : List D} (i : Nat) (h : Rps H vs ds) : Rps H (vs.take i ++ v :: vs.drop i) (ds.take i ++ d :: ds.drop i) :=
  (h.take i).app (.cons k (h.drop i))
theorem Rps.dropLast {H : Hp} {vs : List V} {ds : List D} (h : Rps H vs ds) : Rps H vs.dropLast ds.dropLast := by
  rw [List.dropLast_eq_take, List.dropLast_eq_take, h.len]
  exact h.take _
theorem Rps.ints {H : Hp} : ∀ ns : List Int, Rps H (ns.map V.int) (ns.map PyData.int)
  | [] => .nil
  | n :: ns => .cons (.int n) (Rps.ints ns)
theorem Rps.to_ints {H : Hp} : ∀ {ns : List Int} {vs : List V}, Rps H vs (ns.map PyData.int) → vs = ns.map V.int
  | [], _, h => by cases h; rfl
  | n :: ns, _, h => by
    cases h with
    | cons h1 h2 =>
      cases h1
      rw [Rps.to_ints h2]; rfl
theorem Rps.to_bls {H : Hp} : ∀ {ns : List Bool} {vs : List V}, Rps H vs (ns.map PyData.bool) → vs = ns.map V.bl
  | [], _, h => by cases h; rfl
  | n :: ns, _, h => by
    cases h with
    | cons h1 h2 =>
      cases h1
      rw [Rps.to_bls h2]; rfl
/-- keys and values -/
abbrev Kps {κ : Type} (H : Hp) : List (κ × V) → List (κ × D) → Prop := Paired fun p q => p.1 = q.1 ∧ Rp H p.2 q.2
theorem Kps.to {κ : Type} {H H' : Hp} {a : List (κ × V)} {b : List (κ × D)} (h : Kps H a b) (s : Same H H') : Kps H' a b := Paired.mapP h fun _ _ x => ⟨x.1, x.2.to s⟩
/-- w stands for v: shared data in Hs alone, one's own list or dict in H, its items in Hs -/
def RepV (aT : Addr) (Hs H : Hp) (w : V) : Vl → Prop
  | .sh d => Rp Hs w d
  | .ow ds => ∃ p xs, w = .ref p ∧ p ≠ aT ∧ Hs p = none ∧ H p = some (.lst xs) ∧ xs.length ≤ sizeLine ∧ Rps Hs xs ds
  | .dk kvs => ∃ p kv, w = .ref p ∧ p ≠ aT ∧ Hs p = none ∧ H p = some (.dK kv) ∧ Kps Hs kv kvs
  | .dt kvs => ∃ p kv, w = .ref p ∧ p ≠ aT ∧ Hs p = none ∧ H p = some (.dT kv) ∧ Kps Hs kv kvs
  | .tp => w = .ref aT
def Vl.own : Vl → Bool
  | .ow _ => true | .dk _ => true | .dt _ => true | _ => false
/-- a def's run: the heaps at its entry, the tape's list, the script's copy -/
structure G where
  H0 : Hp
  Hs0 : Hp
  aT : Addr
  aS : Addr
/-- the tables of code objects that the program's lambdas write to, and the names of the lambdas -/
class Tbl where
  T : List (Addr × Str)
instance (priority := low) noTbl : Tbl := ⟨[]⟩
variable [Tbl]
/-- no table -/
def nt : HO → Bool
  | .tbl _ => false
  | _ => true
/-- a thing that may be written -/
def mu : HO → Bool
  | .tbl _ => false
  | .ext _ => false
  | _ => true
theorem mu_nt {o : HO} (h : mu o = true) : nt o = true := by
  cases o <;> first | rfl | cases h
theorem nt_ne {o : HO} (h : nt o = true) (ps : Array Value) : o ≠ .tbl ps := fun e => by subst e; cases h
theorem tabs_ne {T : List (Addr × Str)} {H : Hp} {p : Addr} {o1 : HO} (t : LamX.Tabs T H) (h : H p = some o1) (m : mu o1 = true) (o : HO) : LamX.Tabs T (upd H p o) := fun q hq => by
  obtain ⟨ps, h1, h2, h3⟩ := t q hq
  refine ⟨ps, ?_, h2, fun pos cv hc => ?_⟩
  · rw [upd_ne]; exact h1
    intro e
    rw [e, h] at h1
    cases h1
    cases m
  · obtain ⟨c, e1, e2⟩ := h3 pos cv hc
    refine ⟨c, e1, ?_⟩
    rw [upd_ne]; exact e2
    intro e
    rw [e, h] at e2
    cases e2
    cases m
theorem tabs_new {T : List (Addr × Str)} {H : Hp} {p : Addr} (t : LamX.Tabs T H) (h : H p = none) (o : HO) : LamX.Tabs T (upd H p o) := t.ext fun b x e => by rw [upd_ne (ne_of_none e h)]; exact e
structure TpOk (g : G) (Hs H : Hp) (τ : Tp) : Prop where
  tb : LamX.Tabs Tbl.T H
  tn : ∀ p ∈ Tbl.T, Hs p.1 = none
  h : H g.aT = some (.lst [.ref g.aS, .int τ.pos, .int τ.cell])
  n : Hs g.aT = none
  s : Hs g.aS = some (.lst (τ.sc.map V.int))
  l : τ.sc.length ≤ 63
theorem upd_none {H : Hp} {p b : Addr} {o : HO} (h : upd H p o b = none) : H b = none := by
  by_cases e : b = p
  · subst e; rw [upd_same] at h; cases h
  · rwa [upd_ne e] at h
theorem TpOk.tn_mu {g : G} {Hs H : Hp} {τ : Tp} {p : Addr} {o o' : HO} (t : TpOk g Hs H τ) (hp : H p = some o) (m : mu o = true) : ∀ q ∈ Tbl.T, upd Hs p o' q.1 = none := fun q hq => by
  rw [upd_ne]; exact t.tn q hq
  intro e
  obtain ⟨ps, h1, _⟩ := t.tb q hq
  rw [e, hp] at h1
  cases h1
  cases m
theorem TpOk.tn_new {g : G} {Hs H : Hp} {τ : Tp} {p : Addr} {o' : HO} (t : TpOk g Hs H τ) (hp : H p = none) : ∀ q ∈ Tbl.T, upd Hs p o' q.1 = none := fun q hq => by
  rw [upd_ne]; exact t.tn q hq
  intro e
  obtain ⟨ps, h1, _⟩ := t.tb q hq
  rw [e, hp] at h1
  cases h1
theorem TpOk.tn_lst {g : G} {Hs H : Hp} {τ : Tp} {p : Addr} {xs : List V} {o' : HO} (t : TpOk g Hs H τ) (hp : H p = some (.lst xs)) : ∀ q ∈ Tbl.T, upd Hs p o' q.1 = none := t.tn_mu hp rfl
/-- how an expression may change the heaps -/
structure Up (g : G) (Hs H Hs' H' : Hp) (τ' : Tp) : Prop where
  s : Same Hs Hs'
  h : ∀ b o, H b = some o → b ≠ g.aT → nt o = true → H' b = some o
  k : ∀ b, H' b = none → H b = none
  f : ∀ b o, Hs' b = some o → Hs b = none → H b = none
  le : Same Hs' H'
  tp : TpOk g Hs' H' τ'
structure Rel (g : G) (Hs H : Hp) (σ : Sl) (env : Ev) (τ : Tp) : Prop where
  le : Same Hs H
  tp : TpOk g Hs H τ
  ls : Same g.Hs0 Hs
  bs : ∀ b o, g.H0 b = some o → b ≠ g.aT → nt o = true → H b = some o
  bk : ∀ b, H b = none → g.H0 b = none
  fr : ∀ b o, Hs b = some o → g.Hs0 b = none → g.H0 b = none
  sl : ∀ (i : Nat) (v : Vl), env[i]? = some (some v) → ∃ w, σ[i]? = some (some w) ∧ RepV g.aT Hs H w v
  ow : ∀ (i : Nat) (v : Vl) (p : Addr), env[i]? = some (some v) → v.own = true → σ[i]? = some (some (.ref p)) → g.H0 p = none
  ap : ∀ (i j : Nat) (v v' : Vl) (p : Addr), env[i]? = some (some v) → env[j]? = some (some v') → v.own = true → v'.own = true → σ[i]? = some (some (.ref p)) → σ[j]? = some (some (.ref p)) → i = j
  ln : env.length = σ.length
section
variable {g : G} {Hs H Hs' H' Hs1 H1 Hs2 H2 : Hp} {σ : Sl} {env : Ev} {τ τ' τ1 τ2 : Tp} {w : V} {v : Vl}
theorem Rel.up0 (r : Rel g Hs H σ env τ) : Up g Hs H Hs H τ := ⟨.refl _, fun _ _ h _ _ => h, fun _ h => h, fun b o h n => (by rw [n] at h; cases h), r.le, r.tp⟩
theorem Up.trans (a : Up g Hs H Hs1 H1 τ1) (b : Up g Hs1 H1 Hs2 H2 τ2) : Up g Hs H Hs2 H2 τ2 where
  s := a.s.trans b.s
  h := fun c o h n m => b.h c o (a.h c o h n m) n m
  k := fun c h => a.k c (b.k c h)
  f := fun c o h n => by
    cases e : Hs1 c with
    | some o1 => exact a.f c o1 e n
    | none => exact a.k c (b.f c o h e)
  le := b.le
  tp := b.tp
theorem RepV.up (u : Up g Hs H Hs' H' τ') (r : RepV g.aT Hs H w v) : RepV g.aT Hs' H' w v := by
  have nn : ∀ {p : Addr} {o : HO}, Hs p = none → H p = some o → Hs' p = none := fun {p o} n e => by
    cases q : Hs' p with
    | none => rfl
    | some o' => rw [u.f p o' q n] at e; cases e
  cases v with
  | sh d => exact Rp.to r u.s
  | ow ds =>
    obtain ⟨p, xs, e, n, hn, hp, hl, hr⟩ := r
    exact ⟨p, xs, e, n, nn hn hp, u.h _ _ hp n rfl, hl, hr.to u.s⟩
  | dk kvs =>
    obtain ⟨p, kv, e, n, hn, hp, hr⟩ := r
    exact ⟨p, kv, e, n, nn hn hp, u.h _ _ hp n rfl, hr.to u.s⟩
  | dt kvs =>
    obtain ⟨p, kv, e, n, hn, hp, hr⟩ := r
    exact ⟨p, kv, e, n, nn hn hp, u.h _ _ hp n rfl, hr.to u.s⟩
  | tp => exact r
theorem RepV.mu {aT : Addr} {p : Addr} (ho : v.own = true) (r : RepV aT Hs H (.ref p) v) : ∃ o1, H p = some o1 ∧ Pv.mu o1 = true := by
  cases v with
  | sh d => cases ho
  | ow ds => obtain ⟨q, xs, e, _, _, hp, _⟩ := r; cases e; exact ⟨_, hp, rfl⟩
  | dk kvs => obtain ⟨q, xs, e, _, _, hp, _⟩ := r; cases e; exact ⟨_, hp, rfl⟩
  | dt kvs => obtain ⟨q, xs, e, _, _, hp, _⟩ := r; cases e; exact ⟨_, hp, rfl⟩
  | tp => cases ho
theorem Rel.up (r : Rel g Hs H σ env τ) (u : Up g Hs H Hs' H' τ') : Rel g Hs' H' σ env τ' where
  le := u.le
  tp := u.tp
  ls := r.ls.trans u.s
  bs := fun b o h n m => u.h b o (r.bs b o h n m) n m
  bk := fun b h => r.bk b (u.k b h)
  fr := fun b o h n => by
    cases e : Hs b with
    | some o1 => exact r.fr b o1 e n
    | none => exact r.bk b (u.f b o h e)
  sl := fun i v e => let ⟨w, h1, h2⟩ := r.sl i v e; ⟨w, h1, h2.up u⟩
  ow := r.ow
  ap := r.ap
  ln := r.ln
/-- a new shared object -/
theorem Up.new {p : Addr} {o : HO} (u : Up g Hs H Hs1 H1 τ1) (hp : H1 p = none) : Up g Hs H (upd Hs1 p o) (upd H1 p o) τ1 := by
  have nT : g.aT ≠ p := ne_of_none u.tp.h hp
  have nS : g.aS ≠ p := ne_of_none (u.le _ _ u.tp.s) hp
  refine u.trans ⟨fun b q e => ?_, fun b q e n _ => ?_, fun b h => ?_, fun b q e n => ?_, fun b q e => ?_, ?_⟩
  · rw [upd_ne (ne_of_none (u.le _ _ e) hp)]; exact e
  · rw [upd_ne (ne_of_none e hp)]; exact e
  · exact upd_none h
  · by_cases hb : b = p
    · subst hb; exact hp
    · rw [upd_ne hb, n] at e; cases e
  · by_cases hb : b = p
    · subst hb; rw [upd_same] at e ⊢; exact e
    · rw [upd_ne hb] at e ⊢; exact u.le _ _ e
  · exact ⟨tabs_new u.tp.tb hp _, u.tp.tn_new hp, by rw [upd_ne nT]; exact u.tp.h, by rw [upd_ne nT]; exact u.tp.n, by rw [upd_ne nS]; exact u.tp.s, u.tp.l⟩
/-- a new object that is not shared yet -/
theorem Up.mk1 {p : Addr} {o : HO} (u : Up g Hs H Hs1 H1 τ1) (hp : H1 p = none) : Up g Hs H Hs1 (upd H1 p o) τ1 := by
  have nT : g.aT ≠ p := ne_of_none u.tp.h hp
  refine u.trans ⟨.refl _, fun b q e n _ => ?_, fun b h => upd_none h, fun b q e n => (by rw [n] at e; cases e), fun b q e => ?_, ?_⟩
  · rw [upd_ne (ne_of_none e hp)]; exact e
  · rw [upd_ne (ne_of_none (u.le _ _ e) hp)]; exact u.le _ _ e
  · exact ⟨tabs_new u.tp.tb hp _, u.tp.tn, by rw [upd_ne nT]; exact u.tp.h, u.tp.n, u.tp.s, u.tp.l⟩
theorem Up.freeS {p : Addr} (u : Up g Hs H Hs1 H1 τ1) (hp : H1 p = none) : Hs1 p = none := u.le.free hp
theorem Up.old {p : Addr} (u : Up g Hs H Hs1 H1 τ1) (hp : H1 p = none) : H p = none := u.k p hp
theorem Up.neT {p : Addr} (u : Up g Hs H Hs1 H1 τ1) (hp : H1 p = none) : p ≠ g.aT := fun e => by subst e; rw [u.tp.h] at hp; cases hp
/-- an own list that came into being since is shared -/
theorem Up.share {p : Addr} {xs : List V} (u : Up g Hs H Hs1 H1 τ1) (h0 : H p = none) (hp : H1 p = some (.lst xs)) (hn : Hs1 p = none) (nT : p ≠ g.aT) : Up g Hs H (upd Hs1 p (.lst xs)) H1 τ1 := by
  have nS : g.aS ≠ p := fun e => by subst e; rw [u.tp.s] at hn; cases hn
  refine ⟨fun b q e => ?_, u.h, u.k, fun b q e n => ?_, fun b q e => ?_, ?_⟩
  · have e1 := u.s _ _ e
    rw [upd_ne (ne_of_none e1 hn)]; exact e1
  · by_cases hb : b = p
    · subst hb; exact h0
    · rw [upd_ne hb] at e; exact u.f _ _ e n
  · by_cases hb : b = p
    · subst hb; rw [upd_same] at e; cases e; exact hp
    · rw [upd_ne hb] at e; exact u.le _ _ e
  · exact ⟨u.tp.tb, u.tp.tn_lst hp, u.tp.h, by rw [upd_ne nT.symm]; exact u.tp.n, by rw [upd_ne nS]; exact u.tp.s, u.tp.l⟩
theorem same_upd {H : Hp} {p : Addr} {o : HO} (h : H p = none) : Same H (upd H p o) := fun b x e => by
  rw [upd_ne (ne_of_none e h)]
  exact e
end
/-! ### denotations and judgements -/
abbrev DE := Ev → Tp → Option (Vl × Tp)
abbrev DD := Ev → Tp → Option (D × Tp)
abbrev DT := Ev → Tp → Option (Bool × Tp)
abbrev DA := Ev → Tp → Option (List D × Tp)
abbrev DV := Ev → Tp → Option (List Vl × Tp)
/-- readable: a list may be one's own -/
def Rdb (aT : Addr) (Hs H : Hp) (w : V) (d : D) : Prop := Rp Hs w d ∨ ∃ ds p xs, d = .list ds ∧ w = .ref p ∧ p ≠ aT ∧ H p = some (.lst xs) ∧ xs.length ≤ sizeLine ∧ Rps Hs xs ds
theorem Rdb.up {g : G} {Hs H Hs' H' : Hp} {τ' : Tp} {w : V} {d : D} (u : Up g Hs H Hs' H' τ') (r : Rdb g.aT Hs H w d) : Rdb g.aT Hs' H' w d := by
  rcases r with r | ⟨ds, p, xs, e1, e2, n, hp, hl, hr⟩
  · exact .inl (r.to u.s)
  · exact .inr ⟨ds, p, xs, e1, e2, n, u.h _ _ hp n rfl, hl, hr.to u.s⟩
/-- a readable list -/
theorem Rdb.list {aT : Addr} {Hs H : Hp} {w : V} {ds : List D} (le : Same Hs H) (r : Rdb aT Hs H w (.list ds)) : ∃ p xs, w = .ref p ∧ H p = some (.lst xs) ∧ xs.length ≤ sizeLine ∧ Rps Hs xs ds := by
  rcases r with r | ⟨ds', p, xs, e1, e2, n, hp, hl, hr⟩
  · cases r with
    | lst h1 h2 h3 => exact ⟨_, _, rfl, le _ _ h1, h2, h3⟩
  · cases e1
    exact ⟨p, xs, e2, hp, hl, hr⟩
theorem Rdb.tuple {aT : Addr} {Hs H : Hp} {w : V} {ds : List D} (r : Rdb aT Hs H w (.tuple ds)) : ∃ p xs, w = .ref p ∧ TupAt Hs p xs ds ∧ xs.length ≤ sizeLine ∧ Rps Hs xs ds := by
  rcases r with r | ⟨ds', p, xs, e1, e2, n, hp, hl, hr⟩
  · cases r with
    | tup h1 h2 h3 => exact ⟨_, _, rfl, h1, h2, h3⟩
  · cases e1
theorem Rdb.int {aT : Addr} {Hs H : Hp} {w : V} {i : Int} (r : Rdb aT Hs H w (.int i)) : w = .int i := by
  rcases r with r | ⟨ds', p, xs, e1, e2, n, hp, hl, hr⟩
  · cases r; rfl
  · cases e1
theorem Rdb.bool {aT : Addr} {Hs H : Hp} {w : V} {i : Bool} (r : Rdb aT Hs H w (.bool i)) : w = .bl i := by
  rcases r with r | ⟨ds', p, xs, e1, e2, n, hp, hl, hr⟩
  · cases r; rfl
  · cases e1
theorem Rdb.str {aT : Addr} {Hs H : Hp} {w : V} {i : Str} (r : Rdb aT Hs H w (.str i)) : w = .str i := by
  rcases r with r | ⟨ds', p, xs, e1, e2, n, hp, hl, hr⟩
  · cases r; rfl
  · cases e1
theorem Rdb.dp {K : PySem.W.Frag} {aT : Addr} {Hs H : Hp} {w : V} {d : D} (le : Same Hs H) (r : Rdb aT Hs H w d) : Dp K H w d := by
  rcases r with r | ⟨ds, p, xs, e1, e2, n, hp, hl, hr⟩
  · exact Rp.dp _ _ (r.to le)
  · subst e1; subst e2
    exact .lst (.of hp) (Rps.dp _ _ (hr.to le))
abbrev Rdbs (aT : Addr) (Hs H : Hp) : List V → List D → Prop := Paired (Rdb aT Hs H)
def tD (f : DD) : TE := fun σ H Q => ∃ g Hs env τ d τ', Rel g Hs H σ env τ ∧ f env τ = some (d, τ') ∧ ∀ w Hs' H', Up g Hs H Hs' H' τ' → Rp Hs' w d → Q w H'
def tR (f : DD) : TE := fun σ H Q => ∃ g Hs env τ d τ', Rel g Hs H σ env τ ∧ f env τ = some (d, τ') ∧ ∀ w Hs' H', Up g Hs H Hs' H' τ' → Rdb g.aT Hs' H' w d → Q w H'
def tV (f : DE) : TE := fun σ H Q => ∃ g Hs env τ v τ', Rel g Hs H σ env τ ∧ f env τ = some (v, τ') ∧ ∀ w Hs' H', Up g Hs H Hs' H' τ' → RepV g.aT Hs' H' w v → (v.own = true → ∀ p, w = .ref p → H p = none) → Q w H'
def tB' (f : DT) : TT := fun σ H Q => ∃ g Hs env τ b τ', Rel g Hs H σ env τ ∧ f env τ = some (b, τ') ∧ ∀ Hs' H', Up g Hs H Hs' H' τ' → Q b H'
def tAs (f : DA) : TA := fun σ H Q => ∃ g Hs env τ ds τ', Rel g Hs H σ env τ ∧ f env τ = some (ds, τ') ∧ ∀ ws Hs' H', Up g Hs H Hs' H' τ' → Rps Hs' ws ds → Q ws H'
def tRs (f : DA) : TA := fun σ H Q => ∃ g Hs env τ ds τ', Rel g Hs H σ env τ ∧ f env τ = some (ds, τ') ∧ ∀ ws Hs' H', Up g Hs H Hs' H' τ' → Rdbs g.aT Hs' H' ws ds → Q ws H'
def tVs (f : DV) : TA := fun σ H Q => ∃ g Hs env τ vs τ', Rel g Hs H σ env τ ∧ f env τ = some (vs, τ') ∧ ∀ ws Hs' H', Up g Hs H Hs' H' τ' → Paired (RepV g.aT Hs' H') ws vs → (∀ v ∈ vs, v.own = false) → Q ws H'
/-- shared data; readable data; any value; a test; argument lists -/
abbrev JD (X : Cx) (e : Expr) (f : DD) : Prop := PE X e (tD f)
abbrev JR (X : Cx) (e : Expr) (f : DD) : Prop := PE X e (tR f)
abbrev JV (X : Cx) (e : Expr) (f : DE) : Prop := PE X e (tV f)
abbrev JT (X : Cx) (e : Expr) (f : DT) : Prop := PT X e (tB' f)
abbrev JAs (X : Cx) (es : List Expr) (f : DA) : Prop := PA X es (tAs f)
abbrev JRs (X : Cx) (es : List Expr) (f : DA) : Prop := PA X es (tRs f)
abbrev JVs (X : Cx) (es : List Expr) (f : DV) : Prop := PA X es (tVs f)
section
variable {X : Cx} {e : Expr} {es : List Expr}
theorem PEi {t t' : TE} (h : PE X e t) (i : ∀ σ H Q, t' σ H Q → t σ H Q) : PE X e t' := ⟨fun pins s σ H Q I k => h.run pins s σ H Q I (i σ H Q k)⟩
theorem PTi {t t' : TT} (h : PT X e t) (i : ∀ σ H Q, t' σ H Q → t σ H Q) : PT X e t' := ⟨fun pins s σ H Q I k => h.run pins s σ H Q I (i σ H Q k)⟩
theorem PAi {t t' : TA} (h : PA X es t) (i : ∀ σ H Q, t' σ H Q → t σ H Q) : PA X es t' := ⟨fun pos pins s σ H Q I k => h.run pos pins s σ H Q I (i σ H Q k)⟩
end
/-- the bind of denotations -/
def bnd {α β : Type} (o : Option (α × Tp)) (k : α → Tp → Option β) : Option β := match o with
  | some (a, τ) => k a τ
  | none => none
theorem bnd_some {α β : Type} {a : α} {τ : Tp} {k : α → Tp → Option β} : bnd (some (a, τ)) k = k a τ := rfl
theorem bnd_none {α β : Type} {k : α → Tp → Option β} : bnd none k = none := rfl
theorem bnd_eq {α β : Type} {o : Option (α × Tp)} {k : α → Tp → Option β} {b : β} (h : bnd o k = some b) : ∃ a τ, o = some (a, τ) ∧ k a τ = some b := by
  cases o with
  | none => cases h
  | some p => exact ⟨p.1, p.2, rfl, h⟩
end Pv
namespace Pv
open PySem L2 PySem.Spec PyProof.Rows
variable [Tbl]
theorem Up.refl {g : G} {Hs H : Hp} {τ : Tp} (le : Same Hs H) (tp : TpOk g Hs H τ) : Up g Hs H Hs H τ := ⟨.refl _, fun _ _ h _ _ => h, fun _ h => h, fun b o h n => (by rw [n] at h; cases h), le, tp⟩
/-! ### from one judgement to another -/
def shD (f : DE) : DD := fun env τ => bnd (f env τ) fun v τ' => match v with
  | .sh d => some (d, τ')
  | .ow ds => some (.list ds, τ')
  | _ => none
def vD (f : DD) : DE := fun env τ => bnd (f env τ) fun d τ' => some (.sh d, τ')
section
variable {X : Cx} {e : Expr} {pos : Pos}
theorem jd_v {f : DE} (h : JV X e f) : JD X e (shD f) := PEi h fun σ H Q ⟨g, Hs, env, τ, d, τ', r, hf, q⟩ => by
  obtain ⟨v, τ1, h1, h2⟩ := bnd_eq hf
  refine ⟨g, Hs, env, τ, v, τ1, r, h1, fun w Hs' H' u rv fr => ?_⟩
  cases v with
  | sh d' => cases h2; exact q w Hs' H' u rv
  | ow ds =>
    cases h2
    obtain ⟨p, xs, rfl, n, hn, hp, hl, hr⟩ := rv
    have u2 := u.share (fr rfl p rfl) hp hn n
    exact q _ _ H' u2 (.lst upd_same hl (hr.to (same_upd hn)))
  | dk _ => cases h2
  | dt _ => cases h2
  | tp => cases h2
theorem jr_d {f : DD} (h : JD X e f) : JR X e f := PEi h fun σ H Q ⟨g, Hs, env, τ, d, τ', r, hf, q⟩ =>
  ⟨g, Hs, env, τ, d, τ', r, hf, fun w Hs' H' u rv => q w Hs' H' u (.inl rv)⟩
theorem jv_d {f : DD} (h : JD X e f) : JV X e (vD f) := PEi h fun σ H Q ⟨g, Hs, env, τ, v, τ', r, hf, q⟩ => by
  obtain ⟨d, τ1, h1, h2⟩ := bnd_eq hf
  cases h2
  exact ⟨g, Hs, env, τ, d, _, r, h1, fun w Hs' H' u rv => q w Hs' H' u rv fun z => by cases z⟩
theorem jr_v {f : DE} (h : JV X e f) : JR X e (shD f) := jr_d (jd_v h)
/-! ### names, constants -/
def dVar (i : Nat) : DD := fun env τ => match env[i]? with
  | some (some (.sh d)) => some (d, τ)
  | _ => none
def dBor (i : Nat) : DD := fun env τ => match env[i]? with
  | some (some (.sh d)) => some (d, τ)
  | some (some (.ow ds)) => some (.list ds, τ)
  | _ => none
def dTap (i : Nat) : DE := fun env τ => match env[i]? with
  | some (some .tp) => some (.tp, τ)
  | _ => none
theorem var_ok {i : Nat} {x : Str} (hN : X.N[i]? = some x) (hv : Vis X.env.scope x) (hd : (x == ("__debug__" : Str)) = false) (hcd : (x == ("__classdict__" : Str)) = false) : JD X (.Name x pos) (dVar i) :=
  PEi (pe_var (i := i) hN hv hd hcd) fun σ H Q ⟨g, Hs, env, τ, d, τ', r, hf, q⟩ => by
    unfold dVar at hf
    split at hf
    · rename_i d' he
      cases hf
      obtain ⟨w, h1, h2⟩ := r.sl i _ he
      exact ⟨w, h1, q w Hs H (.refl r.le r.tp) h2⟩
    · cases hf
theorem bor_ok {i : Nat} {x : Str} (hN : X.N[i]? = some x) (hv : Vis X.env.scope x) (hd : (x == ("__debug__" : Str)) = false) (hcd : (x == ("__classdict__" : Str)) = false) : JR X (.Name x pos) (dBor i) :=
  PEi (pe_var (i := i) hN hv hd hcd) fun σ H Q ⟨g, Hs, env, τ, d, τ', r, hf, q⟩ => by
    unfold dBor at hf
    split at hf
    · rename_i d' he
      cases hf
      obtain ⟨w, h1, h2⟩ := r.sl i _ he
      exact ⟨w, h1, q w Hs H (.refl r.le r.tp) (.inl h2)⟩
    · rename_i ds he
      cases hf
      obtain ⟨w, h1, p, xs, e1, n, hn, hp, hl, hr⟩ := r.sl i _ he
      exact ⟨w, h1, q w Hs H (.refl r.le r.tp) (.inr ⟨ds, p, xs, rfl, e1, n, hp, hl, hr⟩)⟩
    · cases hf
theorem tap_ok {i : Nat} {x : Str} (hN : X.N[i]? = some x) (hv : Vis X.env.scope x) (hd : (x == ("__debug__" : Str)) = false) (hcd : (x == ("__classdict__" : Str)) = false) : JV X (.Name x pos) (dTap i) :=
  PEi (pe_var (i := i) hN hv hd hcd) fun σ H Q ⟨g, Hs, env, τ, d, τ', r, hf, q⟩ => by
    unfold dTap at hf
    split at hf
    · rename_i he
      cases hf
      obtain ⟨w, h1, h2⟩ := r.sl i _ he
      exact ⟨w, h1, q w Hs H (.refl r.le r.tp) h2 fun z => by cases z⟩
    · cases hf
theorem jvar (i : Nat) {x : Str} (hN : X.N[i]? = some x := by rfl) (hv : Vis X.env.scope x := by first | exact Or.inl rfl | exact Or.inr (Or.inl rfl) | exact Or.inr (Or.inr rfl)) (hd : (x == ("__debug__" : Str)) = false := by decide) (hcd : (x == ("__classdict__" : Str)) = false := by decide) : JD X (.Name x pos) (dVar i) := var_ok hN hv hd hcd
theorem jbor (i : Nat) {x : Str} (hN : X.N[i]? = some x := by rfl) (hv : Vis X.env.scope x := by first | exact Or.inl rfl | exact Or.inr (Or.inl rfl) | exact Or.inr (Or.inr rfl)) (hd : (x == ("__debug__" : Str)) = false := by decide) (hcd : (x == ("__classdict__" : Str)) = false := by decide) : JR X (.Name x pos) (dBor i) := bor_ok hN hv hd hcd
theorem jtap (i : Nat) {x : Str} (hN : X.N[i]? = some x := by rfl) (hv : Vis X.env.scope x := by first | exact Or.inl rfl | exact Or.inr (Or.inl rfl) | exact Or.inr (Or.inr rfl)) (hd : (x == ("__debug__" : Str)) = false := by decide) (hcd : (x == ("__classdict__" : Str)) = false := by decide) : JV X (.Name x pos) (dTap i) := tap_ok hN hv hd hcd
def dK (d : D) : DD := fun _ τ => some (d, τ)
theorem const_ok {v : V} {d : D} (h : PE X e (tC v)) (hr : ∀ H, Rp H v d) : JD X e (dK d) := PEi h fun σ H Q ⟨g, Hs, env, τ, d', τ', r, hf, q⟩ => by
  cases hf
  exact q v Hs H (.refl r.le r.tp) (hr _)
theorem jint {i : Int} {j : Nat} : JD X (.Constant (.int i) j pos) (dK (.int i)) := const_ok pe_int fun _ => .int i
theorem jbl {b : Bool} {j : Nat} : JD X (.Constant (.bool b) j pos) (dK (.bool b)) := const_ok pe_bl fun _ => .bl b
theorem jnon {j : Nat} : JD X (.Constant .none j pos) (dK .none) := const_ok pe_non fun _ => .non
theorem jstr {x : Str} {j : Nat} : JD X (.Constant (.str x) j pos) (dK (.str x)) := const_ok pe_str fun _ => .str x
/-- a module's constants -/
theorem jgint {x : Str} {i : Int} {t : Tok} (hm : X.mg x = some (.int i t)) (hg : Gl X x := by rfl) (hd : (x == ("__debug__" : Str)) = false := by decide) : JD X (.Name x pos) (dK (.int i)) := const_ok (pe_glob hg hm (v := .int i) ⟨t, rfl⟩ hd) fun _ => .int i
theorem jgstr {x y : Str} {t : Tok} (hm : X.mg x = some (.str y t)) (hg : Gl X x := by rfl) (hd : (x == ("__debug__" : Str)) = false := by decide) : JD X (.Name x pos) (dK (.str y)) := const_ok (pe_glob hg hm (v := .str y) ⟨t, rfl⟩ hd) fun _ => .str y
end
/-! ### argument lists -/
def dNil : DA := fun _ τ => some ([], τ)
def dCons (f : DD) (k : DA) : DA := fun env τ => bnd (f env τ) fun x τ1 => bnd (k env τ1) fun xs τ2 => some (x :: xs, τ2)
def vNil : DV := fun _ τ => some ([], τ)
def vCons (f : DD) (k : DV) : DV := fun env τ => bnd (f env τ) fun x τ1 => bnd (k env τ1) fun xs τ2 => some (.sh x :: xs, τ2)
def vTap (i : Nat) (k : DV) : DV := fun env τ => bnd (dTap i env τ) fun _ τ1 => bnd (k env τ1) fun xs τ2 => some (.tp :: xs, τ2)
section
variable {X : Cx} {e : Expr} {es : List Expr} {pos : Pos}
theorem ja_nil : JAs X [] dNil := PAi pa_nil fun σ H Q ⟨g, Hs, env, τ, d, τ', r, hf, q⟩ => by
  cases hf
  exact q [] Hs H (.refl r.le r.tp) .nil
theorem jr_nil : JRs X [] dNil := PAi pa_nil fun σ H Q ⟨g, Hs, env, τ, d, τ', r, hf, q⟩ => by
  cases hf
  exact q [] Hs H (.refl r.le r.tp) .nil
theorem jvs_nil : JVs X [] vNil := PAi pa_nil fun σ H Q ⟨g, Hs, env, τ, d, τ', r, hf, q⟩ => by
  cases hf
  exact q [] Hs H (.refl r.le r.tp) .nil (fun v h => by cases h)
theorem ja_cons {f : DD} {k : DA} (he : JD X e f) (hk : JAs X es k) (hs : starEach (e :: es) X.env = (false, eval e X.env) :: starEach es X.env := by rfl) : JAs X (e :: es) (dCons f k) :=
  PAi (pa_cons he hk hs) fun σ H Q ⟨g, Hs, env, τ, ds, τ', r, hf, q⟩ => by
    obtain ⟨x, τ1, h1, h2⟩ := bnd_eq hf
    obtain ⟨xs, τ2, h3, h4⟩ := bnd_eq h2
    cases h4
    refine ⟨g, Hs, env, τ, x, τ1, r, h1, fun w Hs1 H1 u1 r1 => ?_⟩
    refine ⟨g, Hs1, env, τ1, xs, τ', r.up u1, h3, fun ws Hs2 H2 u2 r2 => ?_⟩
    exact q (w :: ws) Hs2 H2 (u1.trans u2) (.cons (r1.to u2.s) r2)
theorem jr_cons {f : DD} {k : DA} (he : JR X e f) (hk : JRs X es k) (hs : starEach (e :: es) X.env = (false, eval e X.env) :: starEach es X.env := by rfl) : JRs X (e :: es) (dCons f k) :=
  PAi (pa_cons he hk hs) fun σ H Q ⟨g, Hs, env, τ, ds, τ', r, hf, q⟩ => by
    obtain ⟨x, τ1, h1, h2⟩ := bnd_eq hf
    obtain ⟨xs, τ2, h3, h4⟩ := bnd_eq h2
    cases h4
    refine ⟨g, Hs, env, τ, x, τ1, r, h1, fun w Hs1 H1 u1 r1 => ?_⟩
    refine ⟨g, Hs1, env, τ1, xs, τ', r.up u1, h3, fun ws Hs2 H2 u2 r2 => ?_⟩
    exact q (w :: ws) Hs2 H2 (u1.trans u2) (.cons (r1.up u2) r2)
theorem jvs_cons {f : DD} {k : DV} (he : JD X e f) (hk : JVs X es k) (hs : starEach (e :: es) X.env = (false, eval e X.env) :: starEach es X.env := by rfl) : JVs X (e :: es) (vCons f k) :=
  PAi (pa_cons he hk hs) fun σ H Q ⟨g, Hs, env, τ, ds, τ', r, hf, q⟩ => by
    obtain ⟨x, τ1, h1, h2⟩ := bnd_eq hf
    obtain ⟨xs, τ2, h3, h4⟩ := bnd_eq h2
    cases h4
    refine ⟨g, Hs, env, τ, x, τ1, r, h1, fun w Hs1 H1 u1 r1 => ?_⟩
    refine ⟨g, Hs1, env, τ1, xs, τ', r.up u1, h3, fun ws Hs2 H2 u2 r2 no => ?_⟩
    refine q (w :: ws) Hs2 H2 (u1.trans u2) (.cons (r1.to u2.s) r2) fun v hv => ?_
    rcases List.mem_cons.mp hv with rfl | hv
    · rfl
    · exact no v hv
theorem jvs_tap {i : Nat} {x : Str} {k : DV} (he : JV X (.Name x pos) (dTap i)) (hk : JVs X es k) (hs : starEach (.Name x pos :: es) X.env = (false, eval (.Name x pos) X.env) :: starEach es X.env := by rfl) : JVs X (.Name x pos :: es) (vTap i k) :=
  PAi (pa_cons he hk hs) fun σ H Q ⟨g, Hs, env, τ, ds, τ', r, hf, q⟩ => by
    obtain ⟨x, τ1, h1, h2⟩ := bnd_eq hf
    obtain ⟨xs, τ2, h3, h4⟩ := bnd_eq h2
    cases h4
    have hx : x = .tp := by
      unfold dTap at h1
      split at h1
      · cases h1; rfl
      · cases h1
    subst hx
    refine ⟨g, Hs, env, τ, .tp, τ1, r, h1, fun w Hs1 H1 u1 r1 _ => ?_⟩
    refine ⟨g, Hs1, env, τ1, xs, τ', r.up u1, h3, fun ws Hs2 H2 u2 r2 no => ?_⟩
    refine q (w :: ws) Hs2 H2 (u1.trans u2) (.cons r1 r2) fun v hv => ?_
    rcases List.mem_cons.mp hv with rfl | hv
    · rfl
    · exact no v hv
end
/-! ### displays -/
def dTup (k : DA) : DD := fun env τ => bnd (k env τ) fun xs τ' => if xs.length ≤ 1000 then some (.tuple xs, τ') else none
def dLst (k : DA) : DE := fun env τ => bnd (k env τ) fun xs τ' => if xs.length ≤ 1000 then some (.ow xs, τ') else none
section
variable {X : Cx} {e : Expr} {es : List Expr} {pos : Pos}
theorem line1000 : (1000 : Nat) ≤ sizeLine := by decide
theorem jtup {x1 : Nat} {k : DA} (h : JAs X es k) : JD X (.Tuple es x1 pos) (dTup k) := PEi (pe_tupN h) fun σ H Q ⟨g, Hs, env, τ, d, τ', r, hf, q⟩ => by
  obtain ⟨xs, τ1, h1, h2⟩ := bnd_eq hf
  split at h2
  · rename_i hl
    cases h2
    refine ⟨g, Hs, env, τ, xs, τ', r, h1, fun ws Hs1 H1 u1 r1 => ?_⟩
    have hl2 : ws.length ≤ sizeLine := Nat.le_trans (by rw [r1.len]; exact hl) line1000
    exact ⟨hl2, cmL xs, fun p o hp ho => q _ (upd Hs1 p (tupO (cmL xs) o ws)) _ (u1.new hp) (.tup ⟨o, ho, upd_same⟩ hl2 (r1.to (same_upd (u1.freeS hp))))⟩
  · cases h2
theorem jlst {k : DA} (h : JAs X es k) : JV X (.List es pos) (dLst k) := PEi (pe_lst h) fun σ H Q ⟨g, Hs, env, τ, d, τ', r, hf, q⟩ => by
  obtain ⟨xs, τ1, h1, h2⟩ := bnd_eq hf
  split at h2
  · rename_i hl
    cases h2
    refine ⟨g, Hs, env, τ, xs, τ', r, h1, fun ws Hs1 H1 u1 r1 => ?_⟩
    have hl2 : ws.length ≤ sizeLine := Nat.le_trans (by rw [r1.len]; exact hl) line1000
    refine ⟨hl2, fun p hp => q _ Hs1 _ (u1.mk1 hp) ⟨p, ws, rfl, u1.neT hp, u1.freeS hp, upd_same, hl2, r1⟩ fun _ p' e => ?_⟩
    cases e
    exact u1.old hp
  · cases h2
end
/-! ### operators -/
/-- what follows with a result -/
def Gives (g : G) (Hs H : Hp) (τ : Tp) (v : Vl) (Q : VK) : Prop := ∀ w Hs' H', Up g Hs H Hs' H' τ → RepV g.aT Hs' H' w v → (v.own = true → ∀ p, w = .ref p → H p = none) → Q w H'
section
variable {g : G} {Hs H : Hp} {τ : Tp} {Q : VK}
theorem Gives.d {v : V} {d : D} (le : Same Hs H) (tp : TpOk g Hs H τ) (q : Gives g Hs H τ (.sh d) Q) (r : Rp Hs v d) : Q v H := q v Hs H (.refl le tp) r fun z => by cases z
theorem Gives.lst {xs : List V} {ds : List D} (le : Same Hs H) (tp : TpOk g Hs H τ) (q : Gives g Hs H τ (.ow ds) Q) (hl : xs.length ≤ sizeLine) (r : Rps Hs xs ds) (p : Addr) (hp : H p = none) : Q (.ref p) (upd H p (.lst xs)) := by
  have u := Up.refl le tp
  exact q _ Hs _ (u.mk1 hp) ⟨p, xs, rfl, u.neT hp, u.freeS hp, upd_same, hl, r⟩ fun _ p' e => by cases e; exact hp
theorem Gives.tup {xs : List V} {ds : List D} (le : Same Hs H) (tp : TpOk g Hs H τ) (q : Gives g Hs H τ (.sh (.tuple ds)) Q) (hl : xs.length ≤ sizeLine) (r : Rps Hs xs ds) : NewT xs H Q := ⟨cmL ds, fun p o hp ho => by
  have u := Up.refl le tp
  exact q _ _ _ (u.new hp) (.tup ⟨o, ho, upd_same⟩ hl (r.to (same_upd (u.freeS hp)))) fun z => by cases z⟩
theorem Gives.tup0 {xs : List V} {ds : List D} (le : Same Hs H) (tp : TpOk g Hs H τ) (q : Gives g Hs H τ (.sh (.tuple ds)) Q) (hl : xs.length ≤ sizeLine) (r : Rps Hs xs ds) (c : cmL ds = false) (p : Addr) (hp : H p = none) : Q (.ref p) (upd H p (.tup xs)) := by
  have u := Up.refl le tp
  exact q _ _ _ (u.new hp) (.tup (.of upd_same c) hl (r.to (same_upd (u.freeS hp)))) fun z => by cases z
end
def OpS (r : R2) (opV : D → D → Option Vl) : Prop := ∀ (g : G) (Hs H : Hp) (τ : Tp) (w1 w2 : V) (d1 d2 : D) (v : Vl) (Q : VK), Same Hs H → TpOk g Hs H τ → Rdb g.aT Hs H w1 d1 → Rdb g.aT Hs H w2 d2 → opV d1 d2 = some v → Gives g Hs H τ v Q → r w1 w2 H Q
def dBin (opV : D → D → Option Vl) (f k : DD) : DE := fun env τ => bnd (f env τ) fun x τ1 => bnd (k env τ1) fun y τ2 => (opV x y).map (·, τ2)
section
variable {X : Cx} {a b : Expr} {pos : Pos} {f k : DD}
theorem opS_run {r : R2} {opV : D → D → Option Vl} (s : OpS r opV) : ∀ σ H Q, tV (dBin opV f k) σ H Q → tOp r (tR f) (tR k) σ H Q := fun σ H Q ⟨g, Hs, env, τ, v, τ', r0, hf, q⟩ => by
  obtain ⟨x, τ1, h1, h2⟩ := bnd_eq hf
  obtain ⟨y, τ2, h3, h4⟩ := bnd_eq h2
  have h5 : opV x y = some v ∧ τ2 = τ' := by
    cases e : opV x y with
    | none => rw [e] at h4; cases h4
    | some z => rw [e] at h4; cases h4; exact ⟨rfl, rfl⟩
  obtain ⟨h5, rfl⟩ := h5
  refine ⟨g, Hs, env, τ, x, τ1, r0, h1, fun w Hs1 H1 u1 r1 => ?_⟩
  refine ⟨g, Hs1, env, τ1, y, τ2, r0.up u1, h3, fun w2 Hs2 H2 u2 r2 => ?_⟩
  refine s g Hs2 H2 τ2 w w2 x y v Q u2.le u2.tp (r1.up u2) r2 h5 fun w3 Hs3 H3 u3 rv fr => ?_
  exact q w3 Hs3 H3 ((u1.trans u2).trans u3) rv fun ho p e => by
    have := fr ho p e
    exact (u1.trans u2).old this
theorem jbin {op : Operator} {r : R2} {opV : D → D → Option Vl} (ho : OpR X (binaryOp op) r) (s : OpS r opV) (ha : JR X a f) (hb : JR X b k) : JV X (.BinOp a op b pos) (dBin opV f k) := PEi (pe_op ho ha hb) (opS_run s)
theorem jcmp {op : CmpOp} {r : R2} {opV : D → D → Option Vl} (ho : OpR X (compareOp op) r) (s : OpS r opV) (ha : JR X a f) (hb : JR X b k) (hm : behindInMarks op b = false) : JV X (.Compare a [op] [b] pos) (dBin opV f k) := PEi (pe_cmpR ho ha hb hm) (opS_run s)
end
/-! +, -, *, //, %, ** -/
def addV : D → D → Option Vl
  | .int i, .int j => some (.sh (.int (i + j)))
  | .list xs, .list ys => if xs.length + ys.length ≤ 16777216 then some (.ow (xs ++ ys)) else none
  | .tuple xs, .tuple ys => if xs.length + ys.length ≤ 16777216 then some (.sh (.tuple (xs ++ ys))) else none
  | .str x, .str y => if x.length + y.length ≤ 16777216 then some (.sh (.str (x ++ y))) else none
  | _, _ => none
theorem line_eq : sizeLine = 16777216 := by decide
def rAddD (K : PySem.W.Frag) : R2 := fun x y H Q => (∃ i j, x = .int i ∧ y = .int j ∧ Q (.int (i + j)) H) ∨ rCat x y H Q ∨ rCatN K x y H Q ∨ (∃ i j, x = .str i ∧ y = .str j ∧ i.length + j.length ≤ sizeLine ∧ Q (.str (i ++ j)) H)
theorem op_addD {X : Cx} : OpR X (binaryOp .Add) (rAddD X.K) := op_add.or (op_cat.or (op_catN.or op_add_str))
theorem add_s {K : PySem.W.Frag} : OpS (rAddD K) addV := by
  intro g Hs H τ w1 w2 d1 d2 v Q le tp r1 r2 e q
  unfold addV at e
  split at e
  · cases e
    exact .inl ⟨_, _, r1.int, r2.int, q.d le tp (.int _)⟩
  · split at e
    · cases e
      rename_i xs ys hl
      obtain ⟨p1, x1, rfl, h1, l1, k1⟩ := r1.list le
      obtain ⟨p2, x2, rfl, h2, l2, k2⟩ := r2.list le
      have hl2 : x1.length + x2.length ≤ sizeLine := by rw [k1.len, k2.len, line_eq]; exact hl
      exact .inr (.inl ⟨p1, p2, x1, x2, rfl, rfl, h1, h2, hl2, q.lst le tp (by rw [List.length_append]; exact hl2) (k1.app k2)⟩)
    · cases e
  · split at e
    · cases e
      rename_i xs ys hl
      obtain ⟨p1, x1, rfl, h1, l1, k1⟩ := r1.tuple
      obtain ⟨p2, x2, rfl, h2, l2, k2⟩ := r2.tuple
      have hl2 : x1.length + x2.length ≤ sizeLine := by rw [k1.len, k2.len, line_eq]; exact hl
      refine .inr (.inr (.inl ⟨p1, p2, x1, x2, rfl, rfl, (h1.mono le).sq, (h2.mono le).sq, hl2, fun z => ?_, fun _ z => ?_, fun _ _ => q.tup le tp (by rw [List.length_append]; exact hl2) (k1.app k2)⟩))
      · subst z
        have e0 : xs = [] := by have := k1.len; exact List.eq_nil_of_length_eq_zero this.symm
        subst e0
        exact q.d le tp (.tup h2 l2 k2)
      · subst z
        have e0 : ys = [] := by have := k2.len; exact List.eq_nil_of_length_eq_zero this.symm
        subst e0
        rw [List.append_nil] at q
        exact q.d le tp (.tup h1 l1 k1)
    · cases e
  · split at e
    · cases e
      rename_i x y hl
      exact .inr (.inr (.inr ⟨_, _, r1.str, r2.str, by rw [line_eq]; exact hl, q.d le tp (.str _)⟩))
    · cases e
  · cases e
def subV : D → D → Option Vl
  | .int i, .int j => some (.sh (.int (i - j)))
  | _, _ => none
theorem sub_s : OpS (rI0 fun i j => .int (i - j)) subV := by
  intro g Hs H τ w1 w2 d1 d2 v Q le tp r1 r2 e q
  unfold subV at e
  split at e
  · cases e
    exact ⟨_, _, r1.int, r2.int, q.d le tp (.int _)⟩
  · cases e
def mulV : D → D → Option Vl
  | .int i, .int j => if (-18446744073709551616 < i ∧ i < 18446744073709551616) ∨ (-18446744073709551616 < j ∧ j < 18446744073709551616) then some (.sh (.int (i * j))) else none
  | .list xs, .int k => if -9223372036854775808 ≤ k ∧ k < 9223372036854775808 ∧ xs.length * k.toNat ≤ 16777216 then some (.ow (List.replicate k.toNat xs).flatten) else none
  | .tuple xs, .int k => if xs ≠ [] ∧ 2 ≤ k ∧ k ≤ 1000 ∧ xs.length ≤ 1000 ∧ cmL (List.replicate k.toNat xs).flatten = false then some (.sh (.tuple (List.replicate k.toNat xs).flatten)) else none
  | _, _ => none
theorem Rps.rep {H : Hp} {vs : List V} {ds : List D} (h : Rps H vs ds) : ∀ n : Nat, Rps H (List.replicate n vs).flatten (List.replicate n ds).flatten
  | 0 => .nil
  | n + 1 => by
    rw [List.replicate_succ, List.replicate_succ, List.flatten_cons, List.flatten_cons]
    exact h.app (Rps.rep h n)
theorem flat_len {α : Type} (xs : List α) (n : Nat) : (List.replicate n xs).flatten.length = xs.length * n := by
  induction n with
  | zero => rfl
  | succ n ih => rw [List.replicate_succ, List.flatten_cons, List.length_append, ih, Nat.mul_succ, Nat.add_comm]
def rMulD (K : PySem.W.Frag) : R2 := fun x y H Q => rI CMul (fun i j => .int (i * j)) x y H Q ∨ rRep x y H Q ∨ rRepT K x y H Q
theorem op_mulD {X : Cx} : OpR X (binaryOp .Mult) (rMulD X.K) := op_mul.or (op_rep.or op_repT)
theorem mul_s {K : PySem.W.Frag} : OpS (rMulD K) mulV := by
  intro g Hs H τ w1 w2 d1 d2 v Q le tp r1 r2 e q
  unfold mulV at e
  split at e
  · split at e
    · cases e
      rename_i i j hc
      refine .inl ⟨_, _, r1.int, r2.int, ?_, q.d le tp (.int _)⟩
      unfold CMul
      have e2 : (2 : Int) ^ 64 = 18446744073709551616 := by decide
      rw [e2]
      exact hc
    · cases e
  · split at e
    · cases e
      rename_i xs k hc
      obtain ⟨p1, x1, rfl, h1, l1, k1⟩ := r1.list le
      have hl : x1.length * k.toNat ≤ sizeLine := by rw [k1.len, line_eq]; exact hc.2.2
      have e2 : (2 : Int) ^ 63 = 9223372036854775808 := by decide
      exact .inr (.inl ⟨p1, k, x1, rfl, r2.int, h1, by rw [e2]; exact hc.1, by rw [e2]; exact hc.2.1, hl, fun p hp => q.lst le tp (by rw [flat_len]; exact hl) (k1.rep _) p hp⟩)
    · cases e
  · split at e
    · cases e
      rename_i xs k hc
      obtain ⟨p1, x1, rfl, h1, l1, k1⟩ := r1.tuple
      have hl := k1.len
      refine .inr (.inr ⟨p1, k, x1, rfl, r2.int, (h1.mono le).sq, fun z => hc.1 ?_, hc.2.1, hc.2.2.1, by rw [hl]; exact hc.2.2.2.1, fun p hp => q.tup0 le tp ?_ (k1.rep _) hc.2.2.2.2 p hp⟩)
      · subst z
        exact List.eq_nil_of_length_eq_zero hl.symm
      · rw [flat_len, hl, line_eq]
        have h2 : k.toNat ≤ 1000 := by omega
        have h3 : xs.length * k.toNat ≤ 1000 * 1000 := Nat.mul_le_mul hc.2.2.2.1 h2
        omega
    · cases e
  · cases e
def fdivV : D → D → Option Vl
  | .int i, .int j => if 0 < j ∧ j < 18446744073709551616 then some (.sh (.int (i / j))) else none
  | _, _ => none
theorem fdiv_s : OpS (rI CDivW fun i j => .int (i / j)) fdivV := by
  intro g Hs H τ w1 w2 d1 d2 v Q le tp r1 r2 e q
  unfold fdivV at e
  split at e
  · split at e
    · cases e
      rename_i i j hc
      refine ⟨_, _, r1.int, r2.int, wide_div (b := 64) hc.1 ?_ (by decide) (by decide), q.d le tp (.int _)⟩
      have e2 : (2 : Nat) ^ 64 = 18446744073709551616 := by decide
      rw [e2]
      omega
    · cases e
  · cases e
def modV : D → D → Option Vl
  | .int i, .int j => if 0 < j then some (.sh (.int (i % j))) else none
  | _, _ => none
theorem mod_s : OpS (rI (fun _ j => 0 < j) fun i j => .int (i % j)) modV := by
  intro g Hs H τ w1 w2 d1 d2 v Q le tp r1 r2 e q
  unfold modV at e
  split at e
  · split at e
    · cases e
      rename_i i j hc
      exact ⟨_, _, r1.int, r2.int, hc, q.d le tp (.int _)⟩
    · cases e
  · cases e
def powV : D → D → Option Vl
  | .int i, .int j => if 0 ≤ j ∧ j ≤ 1000000 ∧ i.natAbs < 18446744073709551616 then some (.sh (.int (i ^ j.toNat))) else none
  | _, _ => none
theorem pow_s : OpS (rI CPow fun i j => .int (i ^ j.toNat)) powV := by
  intro g Hs H τ w1 w2 d1 d2 v Q le tp r1 r2 e q
  unfold powV at e
  split at e
  · split at e
    · cases e
      rename_i i j hc
      refine ⟨_, _, r1.int, r2.int, ⟨hc.1, hc.2.1, ?_⟩, q.d le tp (.int _)⟩
      have e2 : (2 : Nat) ^ 64 = 18446744073709551616 := by decide
      rw [e2]
      exact hc.2.2
    · cases e
  · cases e
section
variable {X : Cx} {a b : Expr} {pos : Pos} {f k : DD}
theorem jadd (ha : JR X a f) (hb : JR X b k) : JV X (.BinOp a .Add b pos) (dBin addV f k) := jbin op_addD add_s ha hb
theorem jsub (ha : JR X a f) (hb : JR X b k) : JV X (.BinOp a .Sub b pos) (dBin subV f k) := jbin op_sub sub_s ha hb
theorem jmul (ha : JR X a f) (hb : JR X b k) : JV X (.BinOp a .Mult b pos) (dBin mulV f k) := jbin op_mulD mul_s ha hb
theorem jfdiv (ha : JR X a f) (hb : JR X b k) : JV X (.BinOp a .FloorDiv b pos) (dBin fdivV f k) := jbin op_fdivW fdiv_s ha hb
theorem jmod (ha : JR X a f) (hb : JR X b k) : JV X (.BinOp a .Mod b pos) (dBin modV f k) := jbin op_mod mod_s ha hb
theorem jpow (ha : JR X a f) (hb : JR X b k) : JV X (.BinOp a .Pow b pos) (dBin powV f k) := jbin op_pow pow_s ha hb
end
/-! -x -/
def dNeg (f : DD) : DD := fun env τ => bnd (f env τ) fun x τ1 => match x with
  | .int i => some (.int (-i), τ1)
  | _ => none
theorem jneg {X : Cx} {a : Expr} {pos : Pos} {f : DD} (ha : JD X a f) : JD X (.UnaryOp .USub a pos) (dNeg f) := PEi (pe_un un_neg ha) fun σ H Q ⟨g, Hs, env, τ, v, τ', r0, hf, q⟩ => by
  obtain ⟨x, τ1, h1, h2⟩ := bnd_eq hf
  refine ⟨g, Hs, env, τ, x, τ1, r0, h1, fun w Hs1 H1 u1 r1 => ?_⟩
  split at h2
  · cases h2
    cases r1
    exact ⟨_, rfl, q _ Hs1 H1 u1 (.int _)⟩
  · cases h2
/-! ### subscripts -/
def ixD : D → D → Option D
  | .list xs, .int i => atI xs i
  | .tuple xs, .int i => atI xs i
  | _, _ => none
def ixV (x y : D) : Option Vl := (ixD x y).map .sh
theorem Rps.atI {H : Hp} {vs : List V} {ds : List D} {i : Int} {d : D} (h : Rps H vs ds) (e : L2.atI ds i = some d) : ∃ v, L2.atI vs i = some v ∧ Rp H v d := by
  unfold L2.atI at e ⊢
  rw [h.len]
  cases q : ixN ds.length i with
  | none => rw [q] at e; cases e
  | some j =>
    rw [q] at e
    exact h.get e
theorem ix_s {K : PySem.W.Frag} : OpS (rIx K) ixV := by
  intro g Hs H τ w1 w2 d1 d2 v Q le tp r1 r2 e q
  unfold ixV ixD at e
  split at e
  · rename_i xs i
    cases h : atI xs i with
    | none => rw [h] at e; cases e
    | some d =>
      rw [h] at e; cases e
      obtain ⟨p1, x1, rfl, h1, l1, k1⟩ := r1.list le
      obtain ⟨v1, e1, k2⟩ := k1.atI h
      exact .inl ⟨p1, x1, i, v1, rfl, r2.int, .of h1, e1, q.d le tp k2⟩
  · rename_i xs i
    cases h : atI xs i with
    | none => rw [h] at e; cases e
    | some d =>
      rw [h] at e; cases e
      obtain ⟨p1, x1, rfl, h1, l1, k1⟩ := r1.tuple
      obtain ⟨v1, e1, k2⟩ := k1.atI h
      exact .inr (.inl ⟨p1, x1, i, v1, rfl, r2.int, (h1.mono le).sq, e1, q.d le tp k2⟩)
  · cases e
theorem jix {X : Cx} {a b : Expr} {pos : Pos} {f k : DD} (ha : JR X a f) (hb : JR X b k) (hs : PlainIx b := by intro _ _; rfl) : JV X (.Subscript a b pos) (dBin ixV f k) := PEi (pe_ix ix_seq ha hb hs) (opS_run ix_s)
/-- the tape read -/
def dTapIx (i : Nat) (j : Nat) : DD := fun env τ => match env[i]? with
  | some (some .tp) => match j with
    | 0 => some (.list (τ.sc.map .int), τ)
    | 1 => some (.int τ.pos, τ)
    | 2 => some (.int τ.cell, τ)
    | _ => none
  | _ => none
theorem len_sc {τ : Tp} (h : τ.sc.length ≤ 63) : (τ.sc.map V.int).length ≤ sizeLine := by rw [List.length_map, line_eq]; omega
theorem jtapix {X : Cx} {x : Str} {i : Nat} {j : Nat} {z : Int} {jj : Nat} {p1 p2 pos : Pos} (ha : JV X (.Name x p1) (dTap i)) (hz : z = (j : Int) := by rfl) (hs : PlainIx (.Constant (.int z) jj p2) := by intro _ _; rfl) :
    JD X (.Subscript (.Name x p1) (.Constant (.int z) jj p2) pos) (dTapIx i j) :=
  PEi (pe_ix ix_list ha pe_int hs) fun σ H Q ⟨g, Hs, env, τ, d, τ', r, hf, q⟩ => by
    unfold dTapIx at hf
    split at hf
    · rename_i he
      refine ⟨g, Hs, env, τ, .tp, τ, r, by unfold dTap; rw [he], fun w Hs1 H1 u1 r1 _ => ?_⟩
      have r1 : w = .ref g.aT := r1
      subst r1
      subst hz
      have hT := u1.tp.h
      split at hf
      · cases hf
        exact ⟨g.aT, _, _, .ref g.aS, rfl, rfl, .of hT, atI_nat (j := 0) rfl, q _ Hs1 H1 u1 (.lst u1.tp.s (len_sc u1.tp.l) (Rps.ints _))⟩
      · cases hf
        exact ⟨g.aT, _, _, .int _, rfl, rfl, .of hT, atI_nat (j := 1) rfl, q _ Hs1 H1 u1 (.int _)⟩
      · cases hf
        exact ⟨g.aT, _, _, .int _, rfl, rfl, .of hT, atI_nat (j := 2) rfl, q _ Hs1 H1 u1 (.int _)⟩
      · cases hf
    · cases hf
/-! slices -/
abbrev DO := Ev → Tp → Option (Option Int × Tp)
def oNone : DO := fun _ τ => some (none, τ)
def oSome (f : DD) : DO := fun env τ => bnd (f env τ) fun x τ1 => match x with
  | .int i => some (some i, τ1)
  | _ => none
def cutD (xs : List D) (lo hi : Option Int) : List D := (xs.drop (HT.sIx xs.length 0 lo)).take (HT.sIx xs.length xs.length hi - HT.sIx xs.length 0 lo)
def slD (x : D) (lo hi : Option Int) : Option Vl := match x with
  | .list xs => some (.ow (cutD xs lo hi))
  | .tuple xs => some (.sh (.tuple (cutD xs lo hi)))
  | _ => none
def dSl (f : DD) (l h : DO) : DE := fun env τ => bnd (f env τ) fun x τ1 => bnd (l env τ1) fun lo τ2 => bnd (h env τ2) fun hi τ3 => (slD x lo hi).map (·, τ3)
def tO (f : DO) : TO := fun σ H Q => ∃ g Hs env τ d τ', Rel g Hs H σ env τ ∧ f env τ = some (d, τ') ∧ ∀ Hs' H', Up g Hs H Hs' H' τ' → Q d H'
abbrev JO (X : Cx) (e : Option Expr) (f : DO) : Prop := PO X e (tO f)
theorem POi {X : Cx} {e : Option Expr} {t t' : TO} (h : PO X e t) (i : ∀ σ H Q, t' σ H Q → t σ H Q) : PO X e t' := ⟨fun pins s σ H Q I k => h.run pins s σ H Q I (i σ H Q k)⟩
theorem jo_none {X : Cx} : JO X none oNone := POi po_none fun σ H Q ⟨g, Hs, env, τ, d, τ', r, hf, q⟩ => by
  cases hf
  exact q Hs H (.refl r.le r.tp)
theorem jo_some {X : Cx} {e : Expr} {f : DD} (h : JD X e f) : JO X (some e) (oSome f) := POi (po_some h) fun σ H Q ⟨g, Hs, env, τ, d, τ', r, hf, q⟩ => by
  obtain ⟨x, τ1, h1, h2⟩ := bnd_eq hf
  refine ⟨g, Hs, env, τ, x, τ1, r, h1, fun w Hs1 H1 u1 r1 => ?_⟩
  split at h2
  · cases h2
    cases r1
    exact ⟨_, rfl, q Hs1 H1 u1⟩
  · cases h2
theorem Rps.cut {H : Hp} {vs : List V} {ds : List D} (h : Rps H vs ds) (lo hi : Option Int) : Rps H (cutV vs lo hi) (cutD ds lo hi) := by
  unfold cutV cutD
  rw [h.len]
  exact (h.drop _).take _
theorem jsl {X : Cx} {e : Expr} {lo hi : Option Expr} {p2 pos : Pos} {f : DD} {l h : DO} (he : JR X e f) (hl : JO X lo l) (hh : JO X hi h) : JV X (.Subscript e (.Slice lo hi none p2) pos) (dSl f l h) :=
  PEi (pe_slice (sl_list.or sl_tupN) he hl hh) fun σ H Q ⟨g, Hs, env, τ, v, τ', r, hf, q⟩ => by
    obtain ⟨x, τ1, h1, h2⟩ := bnd_eq hf
    obtain ⟨a, τ2, h3, h4⟩ := bnd_eq h2
    obtain ⟨b, τ3, h5, h6⟩ := bnd_eq h4
    refine ⟨g, Hs, env, τ, x, τ1, r, h1, fun w Hs1 H1 u1 r1 => ?_⟩
    refine ⟨g, Hs1, env, τ1, a, τ2, r.up u1, h3, fun Hs2 H2 u2 => ?_⟩
    refine ⟨g, Hs2, env, τ2, b, τ3, (r.up u1).up u2, h5, fun Hs3 H3 u3 => ?_⟩
    have u := (u1.trans u2).trans u3
    have r2 := r1.up (u2.trans u3)
    have q' : ∀ v', v' = v → τ3 = τ' → Gives g Hs3 H3 τ3 v' Q := fun v' e1 e2 w' Hs' H' u' rv fr => by
      subst e1; subst e2
      exact q w' Hs' H' (u.trans u') rv fun ho p e => u.old (fr ho p e)
    unfold slD at h6
    split at h6
    · cases h6
      obtain ⟨p1, x1, rfl, h1, l1, k1⟩ := r2.list u3.le
      refine .inl ⟨p1, x1, rfl, .of h1, fun p hp => (q' _ rfl rfl).lst u3.le u3.tp (Nat.le_trans (cutV_length _ _ _) l1) (k1.cut a b) p hp⟩
    · cases h6
      rename_i xs
      obtain ⟨p1, x1, rfl, h1, l1, k1⟩ := r2.tuple
      refine .inr ⟨p1, x1, rfl, (h1.mono u3.le).sq, fun z => ?_, fun _ => (q' _ rfl rfl).tup u3.le u3.tp (Nat.le_trans (cutV_length _ _ _) l1) (k1.cut a b)⟩
      have e1 : cutD xs a b = xs := by
        unfold cutD
        rw [k1.len] at z
        rw [z.1, z.2, List.drop_zero, Nat.sub_zero, List.take_length]
      refine (q' _ rfl rfl).d u3.le u3.tp ?_
      rw [e1]
      exact .tup h1 l1 k1
    · cases h6
end Pv
namespace Pv
open PySem L2 PySem.Spec PyProof.Rows
variable [Tbl]
mutual
theorem Dp.plain {K : PySem.W.Frag} {H : Hp} : ∀ (d : D) (v : V), Dp K H v d → d.plain = true
  | .none, _, _ => rfl
  | .bool _, _, _ => rfl
  | .int _, _, _ => rfl
  | .str _, _, _ => rfl
  | .list ds, _, h => by
    cases h with
    | lst _ h => simp only [PyData.plain]; exact Dp.plainAll ds _ h
  | .tuple ds, _, h => by
    cases h with
    | tup _ h => simp only [PyData.plain]; exact Dp.plainAll ds _ h
  | .dict _, _, h => by cases h
theorem Dp.plainAll {K : PySem.W.Frag} {H : Hp} : ∀ (ds : List D) (vs : List V), DpAll K H vs ds → PyData.plainAll ds = true
  | [], _, _ => rfl
  | d :: ds, _, h => by
    cases h with
    | cons h1 h2 => simp only [PyData.plainAll, Dp.plain d _ h1, Dp.plainAll ds _ h2, Bool.and_self]
end
/-! ### == and != of data -/
def eqV (x y : D) : Option Vl := if min x.depth y.depth ≤ 60 then some (.sh (.bool (PyData.eqv x y))) else none
def neV (x y : D) : Option Vl := if min x.depth y.depth ≤ 60 then some (.sh (.bool (!PyData.eqv x y))) else none
def rEqP (K : PySem.W.Frag) : R2 := fun x y H Q => ∃ d e, Dp K H x d ∧ Dp K H y e ∧ min d.depth e.depth ≤ 60 ∧ Q (.bl (PyData.eqv d e)) H
def rNeP (K : PySem.W.Frag) : R2 := fun x y H Q => ∃ d e, Dp K H x d ∧ Dp K H y e ∧ min d.depth e.depth ≤ 60 ∧ Q (.bl (!PyData.eqv d e)) H
section
variable {X : Cx}
theorem op_eqP (hu : X.A.units + 64 < cLine) : OpR X (compareOp .Eq) (rEqP X.K) := by
  intro pins s σ H x y v u Q I rx ry h
  obtain ⟨d, e, hd, he, hm, q⟩ := h
  obtain ⟨as, r1⟩ := L2.Dp.reads I d x v hd rx
  obtain ⟨bs, r2⟩ := L2.Dp.reads I e y u he ry
  exact SeqAt.eq_plain r1 r2 (Dp.plain d x hd) (Dp.plain e y he) (Nat.lt_of_le_of_lt (Nat.add_le_add_left (Nat.le_trans hm (by decide : 60 ≤ 64)) _) hu) ⟨.bl _, H, I, rfl, q⟩
theorem op_neP (hu : X.A.units + 64 < cLine) : OpR X (compareOp .NotEq) (rNeP X.K) := by
  intro pins s σ H x y v u Q I rx ry h
  obtain ⟨d, e, hd, he, hm, q⟩ := h
  obtain ⟨as, r1⟩ := L2.Dp.reads I d x v hd rx
  obtain ⟨bs, r2⟩ := L2.Dp.reads I e y u he ry
  exact SeqAt.ne_plain r1 r2 (Dp.plain d x hd) (Dp.plain e y he) (Nat.lt_of_le_of_lt (Nat.add_le_add_left (Nat.le_trans hm (by decide : 60 ≤ 64)) _) hu) ⟨.bl _, H, I, rfl, q⟩
theorem eq_s {K : PySem.W.Frag} : OpS (rEqP K) eqV := by
  intro g Hs H τ w1 w2 d1 d2 v Q le tp r1 r2 e q
  unfold eqV at e
  split at e
  · cases e
    exact ⟨d1, d2, r1.dp le, r2.dp le, by assumption, q.d le tp (.bl _)⟩
  · cases e
theorem ne_s {K : PySem.W.Frag} : OpS (rNeP K) neV := by
  intro g Hs H τ w1 w2 d1 d2 v Q le tp r1 r2 e q
  unfold neV at e
  split at e
  · cases e
    exact ⟨d1, d2, r1.dp le, r2.dp le, by assumption, q.d le tp (.bl _)⟩
  · cases e
/-! ### < of data, <=, >, >= of ints -/
def nn : D → Bool
  | .none => false
  | _ => true
theorem nn_ne {d : D} (h : nn d = true) : d ≠ .none := fun e => by subst e; cases h
def ltV (x y : D) : Option Vl := if W.alike x y = true ∧ nn x = true ∧ min x.depth y.depth ≤ 60 then some (.sh (.bool (W.dataLt x y))) else none
def rLtP (K : PySem.W.Frag) : R2 := fun x y H Q => ∃ d e, Dp K H x d ∧ Dp K H y e ∧ W.alike d e = true ∧ nn d = true ∧ min d.depth e.depth ≤ 60 ∧ Q (.bl (W.dataLt d e)) H
theorem op_ltP (hu : X.A.units + 64 < cLine) : OpR X (compareOp .Lt) (rLtP X.K) := by
  intro pins s σ H x y v u Q I rx ry h
  obtain ⟨d, e, hd, he, ha, hn, hm, q⟩ := h
  obtain ⟨as, r1⟩ := L2.Dp.reads I d x v hd rx
  obtain ⟨bs, r2⟩ := L2.Dp.reads I e y u he ry
  exact W.rcLt_alike d e X.A s v u as bs r1 r2 ha (nn_ne hn) (Nat.lt_of_le_of_lt (Nat.add_le_add_left (Nat.le_trans hm (by decide : 60 ≤ 64)) _) hu) X.prog X.w X.xe _ ⟨.bl _, H, I, rfl, q⟩
theorem lt_s {K : PySem.W.Frag} : OpS (rLtP K) ltV := by
  intro g Hs H τ w1 w2 d1 d2 v Q le tp r1 r2 e q
  unfold ltV at e
  split at e
  · rename_i hc
    cases e
    exact ⟨d1, d2, r1.dp le, r2.dp le, hc.1, hc.2.1, hc.2.2, q.d le tp (.bl _)⟩
  · cases e
def leV : D → D → Option Vl
  | .int i, .int j => some (.sh (.bool (decide (i ≤ j))))
  | _, _ => none
def gtV : D → D → Option Vl
  | .int i, .int j => some (.sh (.bool (decide (j < i))))
  | _, _ => none
def geV : D → D → Option Vl
  | .int i, .int j => some (.sh (.bool (decide (j ≤ i))))
  | _, _ => none
theorem le_s : OpS (rI0 fun i j => .bl (decide (i ≤ j))) leV := by
  intro g Hs H τ w1 w2 d1 d2 v Q le tp r1 r2 e q
  unfold leV at e
  split at e
  · cases e
    exact ⟨_, _, r1.int, r2.int, q.d le tp (.bl _)⟩
  · cases e
theorem gt_s : OpS (rI0 fun i j => .bl (decide (j < i))) gtV := by
  intro g Hs H τ w1 w2 d1 d2 v Q le tp r1 r2 e q
  unfold gtV at e
  split at e
  · cases e
    exact ⟨_, _, r1.int, r2.int, q.d le tp (.bl _)⟩
  · cases e
theorem ge_s : OpS (rI0 fun i j => .bl (decide (j ≤ i))) geV := by
  intro g Hs H τ w1 w2 d1 d2 v Q le tp r1 r2 e q
  unfold geV at e
  split at e
  · cases e
    exact ⟨_, _, r1.int, r2.int, q.d le tp (.bl _)⟩
  · cases e
/-! ### in, not in -/
/-- x in y: a list or tuple, or one sign in a text -/
def inB (x y : D) : Option Bool := match y with
  | .list ds => if min (PyData.depthAll ds) x.depth ≤ 60 then some (ds.any fun z => PyData.eqv z x) else none
  | .tuple ds => if min (PyData.depthAll ds) x.depth ≤ 60 then some (ds.any fun z => PyData.eqv z x) else none
  | .str z => match x with
    | .str c => match c.cps.toList with
      | [n] => some (decide (n ∈ z.cps.toList))
      | _ => none
    | _ => none
  | _ => none
def inV (x y : D) : Option Vl := (inB x y).map fun b => .sh (.bool b)
def niV (x y : D) : Option Vl := (inB x y).map fun b => .sh (.bool (!b))
def rInP (K : PySem.W.Frag) (neg : Bool) : R2 := fun x y H Q => ∃ d ds, Dp K H x d ∧ (Dp K H y (.list ds) ∨ Dp K H y (.tuple ds)) ∧ min (PyData.depthAll ds) d.depth ≤ 60 ∧ Q (.bl (if neg then !ds.any (fun z => PyData.eqv z d) else ds.any fun z => PyData.eqv z d)) H
theorem op_inP (hu : X.A.units + 64 < cLine) : OpR X (compareOp .In) (rInP X.K false) := by
  intro pins s σ H x y v u Q I rx ry h
  obtain ⟨d, ds, hd, he, hm, q⟩ := h
  obtain ⟨as, r1⟩ := L2.Dp.reads I d x v hd rx
  have hu' : X.A.units + 1 + min (PyData.depthAll ds) d.depth < cLine := by
    have : X.A.units + 1 + min (PyData.depthAll ds) d.depth ≤ X.A.units + 64 := by omega
    exact Nat.lt_of_le_of_lt this hu
  rcases he with he | he
  · obtain ⟨bs, r2⟩ := L2.Dp.reads I _ y u he ry
    have hp := Dp.plain _ y he
    simp only [PyData.plain] at hp
    exact SeqAt.in_list_data r2 r1 hp (Dp.plain d x hd) hu' ⟨.bl _, H, I, rfl, q⟩
  · obtain ⟨bs, r2⟩ := L2.Dp.reads I _ y u he ry
    have hp := Dp.plain _ y he
    simp only [PyData.plain] at hp
    exact SeqAt.in_tuple_data r2 r1 hp (Dp.plain d x hd) hu' ⟨.bl _, H, I, rfl, q⟩
theorem op_niP (hu : X.A.units + 64 < cLine) : OpR X (compareOp .NotIn) (rInP X.K true) := by
  intro pins s σ H x y v u Q I rx ry h
  obtain ⟨d, ds, hd, he, hm, q⟩ := h
  obtain ⟨as, r1⟩ := L2.Dp.reads I d x v hd rx
  have hu' : X.A.units + 1 + min (PyData.depthAll ds) d.depth < cLine := by
    have : X.A.units + 1 + min (PyData.depthAll ds) d.depth ≤ X.A.units + 64 := by omega
    exact Nat.lt_of_le_of_lt this hu
  rcases he with he | he
  · obtain ⟨bs, r2⟩ := L2.Dp.reads I _ y u he ry
    have hp := Dp.plain _ y he
    simp only [PyData.plain] at hp
    exact SeqAt.notIn_list_data r2 r1 hp (Dp.plain d x hd) hu' ⟨.bl _, H, I, rfl, q⟩
  · obtain ⟨bs, r2⟩ := L2.Dp.reads I _ y u he ry
    have hp := Dp.plain _ y he
    simp only [PyData.plain] at hp
    exact SeqAt.notIn_tuple_data r2 r1 hp (Dp.plain d x hd) hu' ⟨.bl _, H, I, rfl, q⟩
theorem sign_of {c : Str} {n : Nat} (h : c.cps.toList = [n]) : c = ⟨#[n]⟩ := by
  cases c
  simp only [Str.mk.injEq]
  exact Array.toList_inj.mp h
theorem in_s {K : PySem.W.Frag} : OpS (fun x y H Q => rInP K false x y H Q ∨ ∃ (c : Nat) (z : Str), x = .str ⟨#[c]⟩ ∧ y = .str z ∧ Q (.bl (decide (c ∈ z.cps.toList))) H) inV := by
  intro g Hs H τ w1 w2 d1 d2 v Q le tp r1 r2 e q
  unfold inV inB at e
  split at e
  · split at e
    · cases e
      exact .inl ⟨d1, _, r1.dp le, .inl (r2.dp le), by assumption, q.d le tp (.bl _)⟩
    · cases e
  · split at e
    · cases e
      exact .inl ⟨d1, _, r1.dp le, .inr (r2.dp le), by assumption, q.d le tp (.bl _)⟩
    · cases e
  · split at e
    · split at e
      · rename_i hn
        cases e
        have := sign_of hn
        subst this
        exact .inr ⟨_, _, r1.str, r2.str, q.d le tp (.bl _)⟩
      · cases e
    · cases e
  · cases e
theorem ni_s {K : PySem.W.Frag} : OpS (fun x y H Q => rInP K true x y H Q ∨ ∃ (c : Nat) (z : Str), x = .str ⟨#[c]⟩ ∧ y = .str z ∧ Q (.bl (!decide (c ∈ z.cps.toList))) H) niV := by
  intro g Hs H τ w1 w2 d1 d2 v Q le tp r1 r2 e q
  unfold niV inB at e
  split at e
  · split at e
    · cases e
      exact .inl ⟨d1, _, r1.dp le, .inl (r2.dp le), by assumption, q.d le tp (.bl _)⟩
    · cases e
  · split at e
    · cases e
      exact .inl ⟨d1, _, r1.dp le, .inr (r2.dp le), by assumption, q.d le tp (.bl _)⟩
    · cases e
  · split at e
    · split at e
      · rename_i hn
        cases e
        have := sign_of hn
        subst this
        exact .inr ⟨_, _, r1.str, r2.str, q.d le tp (.bl _)⟩
      · cases e
    · cases e
  · cases e
/-! is None -/
def isnV (x y : D) : Option Vl := match y with
  | .none => some (.sh (.bool (!nn x)))
  | _ => none
def innV (x y : D) : Option Vl := match y with
  | .none => some (.sh (.bool (nn x)))
  | _ => none
theorem Rdb.none_iff {aT : Addr} {Hs H : Hp} {w : V} {d : D} (r : Rdb aT Hs H w d) : decide (w = .non) = !nn d := by
  rcases r with r | ⟨ds, p, xs, e1, e2, n, hp, hl, hr⟩
  · cases r <;> rfl
  · subst e1; subst e2; rfl
theorem isn_s : OpS (fun x y H Q => y = .non ∧ Q (.bl (decide (x = .non))) H) isnV := by
  intro g Hs H τ w1 w2 d1 d2 v Q le tp r1 r2 e q
  unfold isnV at e
  split at e
  · cases e
    have : w2 = .non := by
      rcases r2 with r | ⟨ds, p, xs, e1, _⟩
      · cases r; rfl
      · cases e1
    refine ⟨this, ?_⟩
    rw [r1.none_iff]
    exact q.d le tp (.bl _)
  · cases e
theorem inn_s : OpS (fun x y H Q => y = .non ∧ Q (.bl (!decide (x = .non))) H) innV := by
  intro g Hs H τ w1 w2 d1 d2 v Q le tp r1 r2 e q
  unfold innV at e
  split at e
  · cases e
    have : w2 = .non := by
      rcases r2 with r | ⟨ds, p, xs, e1, _⟩
      · cases r; rfl
      · cases e1
    refine ⟨this, ?_⟩
    rw [r1.none_iff, Bool.not_not]
    exact q.d le tp (.bl _)
  · cases e
end
/-! ### comparisons as values -/
section
variable {X : Cx} {a b : Expr} {pos : Pos} {f k : DD}
theorem jeq (hu : X.A.units + 64 < cLine) (ha : JR X a f) (hb : JR X b k) : JV X (.Compare a [.Eq] [b] pos) (dBin eqV f k) := jcmp (op_eqP hu) eq_s ha hb (nomark _)
theorem jne (hu : X.A.units + 64 < cLine) (ha : JR X a f) (hb : JR X b k) : JV X (.Compare a [.NotEq] [b] pos) (dBin neV f k) := jcmp (op_neP hu) ne_s ha hb (nomark _)
theorem jlt (hu : X.A.units + 64 < cLine) (ha : JR X a f) (hb : JR X b k) : JV X (.Compare a [.Lt] [b] pos) (dBin ltV f k) := jcmp (op_ltP hu) lt_s ha hb (nomark _)
theorem jle (hu : X.A.units + 64 < cLine) (ha : JR X a f) (hb : JR X b k) : JV X (.Compare a [.LtE] [b] pos) (dBin leV f k) := jcmp op_le le_s ha hb (nomark _)
theorem jgt (hu : X.A.units + 64 < cLine) (ha : JR X a f) (hb : JR X b k) : JV X (.Compare a [.Gt] [b] pos) (dBin gtV f k) := jcmp op_gt gt_s ha hb (nomark _)
theorem jge (hu : X.A.units + 64 < cLine) (ha : JR X a f) (hb : JR X b k) : JV X (.Compare a [.GtE] [b] pos) (dBin geV f k) := jcmp op_ge ge_s ha hb (nomark _)
theorem jin (hu : X.A.units + 64 < cLine) (ha : JR X a f) (hb : JR X b k) (hm : behindInMarks .In b = false := by rfl) : JV X (.Compare a [.In] [b] pos) (dBin inV f k) := jcmp ((op_inP hu).or op_in_sign) in_s ha hb hm
theorem jni (hu : X.A.units + 64 < cLine) (ha : JR X a f) (hb : JR X b k) (hm : behindInMarks .NotIn b = false := by rfl) : JV X (.Compare a [.NotIn] [b] pos) (dBin niV f k) := jcmp ((op_niP hu).or op_notIn_sign) ni_s ha hb hm
theorem jis (hu : X.A.units + 64 < cLine) (ha : JR X a f) (hb : JR X b k) : JV X (.Compare a [.Is] [b] pos) (dBin isnV f k) := jcmp op_isN isn_s ha hb (nomark _)
theorem jisnt (hu : X.A.units + 64 < cLine) (ha : JR X a f) (hb : JR X b k) : JV X (.Compare a [.IsNot] [b] pos) (dBin innV f k) := jcmp op_notN inn_s ha hb (nomark _)
end
/-! ### tests -/
def tst (f : DE) : DT := fun env τ => bnd (f env τ) fun v τ' => match v with
  | .sh (.bool b) => some (b, τ')
  | _ => none
def tstD (f : DD) : DT := fun env τ => bnd (f env τ) fun v τ' => match v with
  | .bool b => some (b, τ')
  | _ => none
section
variable {X : Cx} {a b : Expr} {pos : Pos} {f k : DD}
theorem tst_run {f : DE} : ∀ σ H Q, tB' (tst f) σ H Q → tTest (tV f) σ H Q := fun σ H Q ⟨g, Hs, env, τ, b, τ', r0, hf, q⟩ => by
  obtain ⟨x, τ1, h1, h2⟩ := bnd_eq hf
  refine ⟨g, Hs, env, τ, x, τ1, r0, h1, fun w Hs1 H1 u1 r1 _ => ?_⟩
  split at h2
  · cases h2
    cases r1
    exact ⟨_, rfl, q Hs1 H1 u1⟩
  · cases h2
theorem tTest_mono {t t' : TE} (i : ∀ σ H Q, t' σ H Q → t σ H Q) : ∀ σ H Q, tTest t' σ H Q → tTest t σ H Q := fun σ H Q h => i σ H _ h
theorem jtcmp {op : CmpOp} {r : R2} {opV : D → D → Option Vl} (ho : OpR X (compareOp op) r) (s : OpS r opV) (ha : JR X a f) (hb : JR X b k) (hm : behindInMarks op b = false) : JT X (.Compare a [op] [b] pos) (tst (dBin opV f k)) :=
  PTi (pt_cmpR ho ha hb hm) fun σ H Q h => tTest_mono (opS_run s) σ H Q (tst_run σ H Q h)
theorem teq (hu : X.A.units + 64 < cLine) (ha : JR X a f) (hb : JR X b k) : JT X (.Compare a [.Eq] [b] pos) (tst (dBin eqV f k)) := jtcmp (op_eqP hu) eq_s ha hb (nomark _)
theorem tne (hu : X.A.units + 64 < cLine) (ha : JR X a f) (hb : JR X b k) : JT X (.Compare a [.NotEq] [b] pos) (tst (dBin neV f k)) := jtcmp (op_neP hu) ne_s ha hb (nomark _)
theorem tlt (hu : X.A.units + 64 < cLine) (ha : JR X a f) (hb : JR X b k) : JT X (.Compare a [.Lt] [b] pos) (tst (dBin ltV f k)) := jtcmp (op_ltP hu) lt_s ha hb (nomark _)
theorem tle (hu : X.A.units + 64 < cLine) (ha : JR X a f) (hb : JR X b k) : JT X (.Compare a [.LtE] [b] pos) (tst (dBin leV f k)) := jtcmp op_le le_s ha hb (nomark _)
theorem tgt (hu : X.A.units + 64 < cLine) (ha : JR X a f) (hb : JR X b k) : JT X (.Compare a [.Gt] [b] pos) (tst (dBin gtV f k)) := jtcmp op_gt gt_s ha hb (nomark _)
theorem tge (hu : X.A.units + 64 < cLine) (ha : JR X a f) (hb : JR X b k) : JT X (.Compare a [.GtE] [b] pos) (tst (dBin geV f k)) := jtcmp op_ge ge_s ha hb (nomark _)
theorem tin (hu : X.A.units + 64 < cLine) (ha : JR X a f) (hb : JR X b k) (hm : behindInMarks .In b = false := by rfl) : JT X (.Compare a [.In] [b] pos) (tst (dBin inV f k)) := jtcmp ((op_inP hu).or op_in_sign) in_s ha hb hm
theorem tni (hu : X.A.units + 64 < cLine) (ha : JR X a f) (hb : JR X b k) (hm : behindInMarks .NotIn b = false := by rfl) : JT X (.Compare a [.NotIn] [b] pos) (tst (dBin niV f k)) := jtcmp ((op_niP hu).or op_notIn_sign) ni_s ha hb hm
theorem tis (hu : X.A.units + 64 < cLine) (ha : JR X a f) (hb : JR X b k) : JT X (.Compare a [.Is] [b] pos) (tst (dBin isnV f k)) := jtcmp op_isN isn_s ha hb (nomark _)
theorem tisnt (hu : X.A.units + 64 < cLine) (ha : JR X a f) (hb : JR X b k) : JT X (.Compare a [.IsNot] [b] pos) (tst (dBin innV f k)) := jtcmp op_notN inn_s ha hb (nomark _)
/-- a value that is a truth, as a test -/
theorem tval {e : Expr} {f : DE} (h : JV X e f) (he : ∀ whole, isTrue e X.env whole = (do let v ← whole; standAt e.pos; holding [v] (truthy v)) := by intro _; rfl) : JT X e (tst f) :=
  PTi (pt_val h he) fun σ H Q h => tst_run σ H Q h
theorem tvalD {e : Expr} {f : DD} (h : JD X e f) (he : ∀ whole, isTrue e X.env whole = (do let v ← whole; standAt e.pos; holding [v] (truthy v)) := by intro _; rfl) : JT X e (tstD f) :=
  PTi (pt_val h he) fun σ H Q ⟨g, Hs, env, τ, b, τ', r0, hf, q⟩ => by
    obtain ⟨x, τ1, h1, h2⟩ := bnd_eq hf
    refine ⟨g, Hs, env, τ, x, τ1, r0, h1, fun w Hs1 H1 u1 r1 => ?_⟩
    split at h2
    · cases h2
      cases r1
      exact ⟨_, rfl, q Hs1 H1 u1⟩
    · cases h2
/-! chains -/
def dChn (o1 o2 : D → D → Option Vl) (f k m : DD) : DD := fun env τ => bnd (f env τ) fun x τ1 => bnd (k env τ1) fun y τ2 => match o1 x y with
  | some (.sh (.bool true)) => bnd (m env τ2) fun z τ3 => match o2 y z with
    | some (.sh (.bool c)) => some (.bool c, τ3)
    | _ => none
  | some (.sh (.bool false)) => some (.bool false, τ2)
  | _ => none
variable {c : Expr} {m : DD}
theorem chn_run {r r' : R2} {o1 o2 : D → D → Option Vl} (s : OpS r o1) (s' : OpS r' o2) : ∀ σ H Q, tD (dChn o1 o2 f k m) σ H Q → tChain r r' (tR f) (tR k) (tR m) σ H Q := fun σ H Q ⟨g, Hs, env, τ, v, τ', r0, hf, q⟩ => by
  obtain ⟨x, τ1, h1, h2⟩ := bnd_eq hf
  obtain ⟨y, τ2, h3, h4⟩ := bnd_eq h2
  refine ⟨g, Hs, env, τ, x, τ1, r0, h1, fun w Hs1 H1 u1 r1 => ?_⟩
  refine ⟨g, Hs1, env, τ1, y, τ2, r0.up u1, h3, fun w2 Hs2 H2 u2 r2 => ?_⟩
  have u12 := u1.trans u2
  split at h4
  · rename_i e1
    refine s g Hs2 H2 τ2 w w2 x y _ _ u2.le u2.tp (r1.up u2) r2 e1 fun w3 Hs3 H3 u3 rv _ => ?_
    cases rv
    refine ⟨true, rfl, iteT ?_⟩
    obtain ⟨z, τ3, h5, h6⟩ := bnd_eq h4
    refine ⟨g, Hs3, env, τ2, z, τ3, (r0.up u12).up u3, h5, fun w4 Hs4 H4 u4 r4 => ?_⟩
    split at h6
    · rename_i e2
      cases h6
      refine s' g Hs4 H4 _ w2 w4 y z _ _ u4.le u4.tp ((r2.up u3).up u4) r4 e2 fun w5 Hs5 H5 u5 rv5 _ => ?_
      exact q w5 Hs5 H5 (((u12.trans u3).trans u4).trans u5) rv5
    · cases h6
  · rename_i e1
    cases h4
    refine s g Hs2 H2 _ w w2 x y _ _ u2.le u2.tp (r1.up u2) r2 e1 fun w3 Hs3 H3 u3 rv _ => ?_
    cases rv
    exact ⟨false, rfl, iteF (q _ Hs3 H3 (u12.trans u3) (.bl _))⟩
  · cases h4
theorem jchn {op op' : CmpOp} {r r' : R2} {o1 o2 : D → D → Option Vl} (ho : OpR X (compareOp op) r) (ho' : OpR X (compareOp op') r') (s : OpS r o1) (s' : OpS r' o2) (ha : JR X a f) (hb : JR X b k) (hc : JR X c m) (hm : lastMarks [op, op'] [b, c] = false) :
    JD X (.Compare a [op, op'] [b, c] pos) (dChn o1 o2 f k m) := PEi (pe_chain ho ho' ha hb hc hm) (chn_run s s')
theorem tchn {op op' : CmpOp} {r r' : R2} {o1 o2 : D → D → Option Vl} (ho : OpR X (compareOp op) r) (ho' : OpR X (compareOp op') r') (s : OpS r o1) (s' : OpS r' o2) (ha : JR X a f) (hb : JR X b k) (hc : JR X c m) (hm : lastMarks [op, op'] [b, c] = false) :
    JT X (.Compare a [op, op'] [b, c] pos) (tstD (dChn o1 o2 f k m)) := PTi (pt_chain ho ho' ha hb hc hm) fun σ H Q ⟨g, Hs, env, τ, b, τ', r0, hf, q⟩ => by
  obtain ⟨x, τ1, h1, h2⟩ := bnd_eq hf
  refine chn_run s s' σ H _ ⟨g, Hs, env, τ, x, τ1, r0, h1, fun w Hs1 H1 u1 r1 => ?_⟩
  split at h2
  · cases h2
    cases r1
    exact ⟨_, rfl, q Hs1 H1 u1⟩
  · cases h2
/-- a <= b <= c, a <= b < c, a < b < c -/
theorem jchLL (ha : JR X a f) (hb : JR X b k) (hc : JR X c m) (hm : lastMarks [.LtE, .LtE] [b, c] = false := by with_unfolding_all rfl) : JD X (.Compare a [.LtE, .LtE] [b, c] pos) (dChn leV leV f k m) := jchn op_le op_le le_s le_s ha hb hc hm
theorem jchLl (hu : X.A.units + 64 < cLine) (ha : JR X a f) (hb : JR X b k) (hc : JR X c m) (hm : lastMarks [.LtE, .Lt] [b, c] = false := by with_unfolding_all rfl) : JD X (.Compare a [.LtE, .Lt] [b, c] pos) (dChn leV ltV f k m) := jchn op_le (op_ltP hu) le_s lt_s ha hb hc hm
theorem jchll (hu : X.A.units + 64 < cLine) (ha : JR X a f) (hb : JR X b k) (hc : JR X c m) (hm : lastMarks [.Lt, .Lt] [b, c] = false := by with_unfolding_all rfl) : JD X (.Compare a [.Lt, .Lt] [b, c] pos) (dChn ltV ltV f k m) := jchn (op_ltP hu) (op_ltP hu) lt_s lt_s ha hb hc hm
theorem tchLL (ha : JR X a f) (hb : JR X b k) (hc : JR X c m) (hm : lastMarks [.LtE, .LtE] [b, c] = false := by with_unfolding_all rfl) : JT X (.Compare a [.LtE, .LtE] [b, c] pos) (tstD (dChn leV leV f k m)) := tchn op_le op_le le_s le_s ha hb hc hm
theorem tchLl (hu : X.A.units + 64 < cLine) (ha : JR X a f) (hb : JR X b k) (hc : JR X c m) (hm : lastMarks [.LtE, .Lt] [b, c] = false := by with_unfolding_all rfl) : JT X (.Compare a [.LtE, .Lt] [b, c] pos) (tstD (dChn leV ltV f k m)) := tchn op_le (op_ltP hu) le_s lt_s ha hb hc hm
theorem tchll (hu : X.A.units + 64 < cLine) (ha : JR X a f) (hb : JR X b k) (hc : JR X c m) (hm : lastMarks [.Lt, .Lt] [b, c] = false := by with_unfolding_all rfl) : JT X (.Compare a [.Lt, .Lt] [b, c] pos) (tstD (dChn ltV ltV f k m)) := tchn (op_ltP hu) (op_ltP hu) lt_s lt_s ha hb hc hm
end
/-! ### and, or, not, if -/
abbrev JW (X : Cx) (e : Expr) (f : DT) : Prop := PW X e (tB' f)
theorem PWi {X : Cx} {e : Expr} {t t' : TT} (h : PW X e t) (i : ∀ σ H Q, t' σ H Q → t σ H Q) : PW X e t' := ⟨fun whole pins s σ H Q I k => h.run whole pins s σ H Q I (i σ H Q k)⟩
def tnot (f : DT) : DT := fun env τ => bnd (f env τ) fun b τ' => some (!b, τ')
def tand (f k : DT) : DT := fun env τ => bnd (f env τ) fun b τ' => if b = true then k env τ' else some (false, τ')
def tor (f k : DT) : DT := fun env τ => bnd (f env τ) fun b τ' => if b = true then some (true, τ') else k env τ'
def dnot (f : DT) : DD := fun env τ => bnd (f env τ) fun b τ' => some (.bool (!b), τ')
def dand (f : DD) (k : DD) : DD := fun env τ => bnd (f env τ) fun x τ' => match x with
  | .bool true => k env τ'
  | .bool false => some (.bool false, τ')
  | _ => none
def dor (f : DD) (k : DD) : DD := fun env τ => bnd (f env τ) fun x τ' => match x with
  | .bool false => k env τ'
  | .bool true => some (.bool true, τ')
  | _ => none
def dif (c : DT) (f k : DD) : DD := fun env τ => bnd (c env τ) fun b τ' => if b = true then f env τ' else k env τ'
def vif (c : DT) (f k : DE) : DE := fun env τ => bnd (c env τ) fun b τ' => if b = true then f env τ' else k env τ'
section
variable {X : Cx} {a b c : Expr} {pos : Pos} {rest : List Expr}
theorem jtnot {f : DT} (ha : JT X a f) : JT X (.UnaryOp .Not a pos) (tnot f) := PTi (pt_not ha) fun σ H Q ⟨g, Hs, env, τ, b, τ', r0, hf, q⟩ => by
  obtain ⟨x, τ1, h1, h2⟩ := bnd_eq hf
  cases h2
  exact ⟨g, Hs, env, τ, x, _, r0, h1, q⟩
theorem jwand1 {f : DT} (ha : JT X a f) : JW X (.BoolOp .And [a] pos) f := pw_and1 ha
theorem jwor1 {f : DT} (ha : JT X a f) : JW X (.BoolOp .Or [a] pos) f := pw_or1 ha
theorem jwand {f k : DT} (ha : JT X a f) (hb : JW X (.BoolOp .And (b :: rest) pos) k) : JW X (.BoolOp .And (a :: b :: rest) pos) (tand f k) := PWi (pw_and ha hb) fun σ H Q ⟨g, Hs, env, τ, b, τ', r0, hf, q⟩ => by
  obtain ⟨x, τ1, h1, h2⟩ := bnd_eq hf
  refine ⟨g, Hs, env, τ, x, τ1, r0, h1, fun Hs1 H1 u1 => ?_⟩
  cases x with
  | true => exact iteT ⟨g, Hs1, env, τ1, b, τ', r0.up u1, h2, fun Hs2 H2 u2 => q Hs2 H2 (u1.trans u2)⟩
  | false => cases h2; exact iteF (q Hs1 H1 u1)
theorem jwor {f k : DT} (ha : JT X a f) (hb : JW X (.BoolOp .Or (b :: rest) pos) k) : JW X (.BoolOp .Or (a :: b :: rest) pos) (tor f k) := PWi (pw_or ha hb) fun σ H Q ⟨g, Hs, env, τ, b, τ', r0, hf, q⟩ => by
  obtain ⟨x, τ1, h1, h2⟩ := bnd_eq hf
  refine ⟨g, Hs, env, τ, x, τ1, r0, h1, fun Hs1 H1 u1 => ?_⟩
  cases x with
  | false => exact iteF ⟨g, Hs1, env, τ1, b, τ', r0.up u1, h2, fun Hs2 H2 u2 => q Hs2 H2 (u1.trans u2)⟩
  | true => cases h2; exact iteT (q Hs1 H1 u1)
theorem jtw {f : DT} (h : JW X a f) : JT X a f := PW.pt h
theorem jnot {f : DT} {f' : DD} (ha : JD X a f') : JD X (.UnaryOp .Not a pos) (dnot (tstD f')) := PEi (pe_not ha) fun σ H Q ⟨g, Hs, env, τ, d, τ', r0, hf, q⟩ => by
  obtain ⟨b, τ1, h1, h2⟩ := bnd_eq hf
  obtain ⟨x, τ2, h3, h4⟩ := bnd_eq h1
  cases h2
  refine ⟨g, Hs, env, τ, x, τ2, r0, h3, fun w Hs1 H1 u1 r1 => ?_⟩
  split at h4
  · cases h4
    cases r1
    exact ⟨_, rfl, q _ Hs1 H1 u1 (.bl _)⟩
  · cases h4
theorem jbone {op : PySem.BoolOp} {f : DD} (h : JD X a f) : JD X (.BoolOp op [a] pos) f := pe_one h
theorem jand {f k : DD} (ha : JD X a f) (hb : JD X (.BoolOp .And (b :: rest) pos) k) : JD X (.BoolOp .And (a :: b :: rest) pos) (dand f k) := PEi (pe_and ha hb) fun σ H Q ⟨g, Hs, env, τ, d, τ', r0, hf, q⟩ => by
  obtain ⟨x, τ1, h1, h2⟩ := bnd_eq hf
  refine ⟨g, Hs, env, τ, x, τ1, r0, h1, fun w Hs1 H1 u1 r1 => ?_⟩
  split at h2
  · cases r1
    exact ⟨true, rfl, iteT ⟨g, Hs1, env, τ1, d, τ', r0.up u1, h2, fun w2 Hs2 H2 u2 => q w2 Hs2 H2 (u1.trans u2)⟩⟩
  · cases r1
    cases h2
    exact ⟨false, rfl, iteF (q _ Hs1 H1 u1 (.bl _))⟩
  · cases h2
theorem jor {f k : DD} (ha : JD X a f) (hb : JD X (.BoolOp .Or (b :: rest) pos) k) : JD X (.BoolOp .Or (a :: b :: rest) pos) (dor f k) := PEi (pe_or ha hb) fun σ H Q ⟨g, Hs, env, τ, d, τ', r0, hf, q⟩ => by
  obtain ⟨x, τ1, h1, h2⟩ := bnd_eq hf
  refine ⟨g, Hs, env, τ, x, τ1, r0, h1, fun w Hs1 H1 u1 r1 => ?_⟩
  split at h2
  · cases r1
    exact ⟨false, rfl, iteF ⟨g, Hs1, env, τ1, d, τ', r0.up u1, h2, fun w2 Hs2 H2 u2 => q w2 Hs2 H2 (u1.trans u2)⟩⟩
  · cases r1
    cases h2
    exact ⟨true, rfl, iteT (q _ Hs1 H1 u1 (.bl _))⟩
  · cases h2
theorem jif {ct : DT} {f k : DD} (hc : JT X c ct) (ha : JD X a f) (hb : JD X b k) : JD X (.IfExp c a b pos) (dif ct f k) := PEi (pe_ifExp hc ha hb) fun σ H Q ⟨g, Hs, env, τ, d, τ', r0, hf, q⟩ => by
  obtain ⟨x, τ1, h1, h2⟩ := bnd_eq hf
  refine ⟨g, Hs, env, τ, x, τ1, r0, h1, fun Hs1 H1 u1 => ?_⟩
  cases x with
  | true => exact iteT ⟨g, Hs1, env, τ1, d, τ', r0.up u1, h2, fun w2 Hs2 H2 u2 => q w2 Hs2 H2 (u1.trans u2)⟩
  | false => exact iteF ⟨g, Hs1, env, τ1, d, τ', r0.up u1, h2, fun w2 Hs2 H2 u2 => q w2 Hs2 H2 (u1.trans u2)⟩
theorem jvif {ct : DT} {f k : DE} (hc : JT X c ct) (ha : JV X a f) (hb : JV X b k) : JV X (.IfExp c a b pos) (vif ct f k) := PEi (pe_ifExp hc ha hb) fun σ H Q ⟨g, Hs, env, τ, d, τ', r0, hf, q⟩ => by
  obtain ⟨x, τ1, h1, h2⟩ := bnd_eq hf
  refine ⟨g, Hs, env, τ, x, τ1, r0, h1, fun Hs1 H1 u1 => ?_⟩
  cases x with
  | true => exact iteT ⟨g, Hs1, env, τ1, d, τ', r0.up u1, h2, fun w2 Hs2 H2 u2 rv fr => q w2 Hs2 H2 (u1.trans u2) rv fun ho p e => u1.old (fr ho p e)⟩
  | false => exact iteF ⟨g, Hs1, env, τ1, d, τ', r0.up u1, h2, fun w2 Hs2 H2 u2 rv fr => q w2 Hs2 H2 (u1.trans u2) rv fun ho p e => u1.old (fr ho p e)⟩
end
end Pv
namespace Pv
open PySem L2 PySem.Spec PyProof.Rows
variable [Tbl]
def CallS (r : List V → Hp → VK → Prop) (cV : List D → Option Vl) : Prop := ∀ (g : G) (Hs H : Hp) (τ : Tp) (ws : List V) (ds : List D) (v : Vl) (Q : VK), Same Hs H → TpOk g Hs H τ → Rdbs g.aT Hs H ws ds → cV ds = some v → Gives g Hs H τ v Q → r ws H Q
def dCl (cV : List D → Option Vl) (k : DA) : DE := fun env τ => bnd (k env τ) fun ds τ1 => (cV ds).map (·, τ1)
section
variable {X : Cx} {x : Str} {p pos : Pos} {e : Expr} {es : List Expr} {k : DA} {id T : String} {r : List V → Hp → VK → Prop} {cV : List D → Option Vl}
theorem callS_run {k : DA} (s : CallS r cV) : ∀ σ H Q, tV (dCl cV k) σ H Q → tCB r (tRs k) σ H Q := fun σ H Q ⟨g, Hs, env, τ, v, τ', r0, hf, q⟩ => by
  obtain ⟨ds, τ1, h1, h2⟩ := bnd_eq hf
  have h5 : cV ds = some v ∧ τ1 = τ' := by
    cases e : cV ds with
    | none => rw [e] at h2; cases h2
    | some z => rw [e] at h2; cases h2; exact ⟨rfl, rfl⟩
  obtain ⟨h5, rfl⟩ := h5
  refine ⟨g, Hs, env, τ, ds, τ1, r0, h1, fun ws Hs1 H1 u1 r1 => ?_⟩
  refine s g Hs1 H1 τ1 ws ds v Q u1.le u1.tp r1 h5 fun w Hs2 H2 u2 rv fr => q w Hs2 H2 (u1.trans u2) rv fun ho p e => u1.old (fr ho p e)
theorem jcB (hc : CallR X (.builtin id) r) (s : CallS r cV) (ha : JRs X (e :: es) k) (hg : Gl X x) (hm : X.mg x = none) (hv : bootBuiltins x = some (.builtin id)) (hn : x ≠ "__name__" := by decide) (hdb : (x == ("__debug__" : Str)) = false := by decide)
    (he : starEach (e :: es) X.env = (false, eval e X.env) :: starEach es X.env := by rfl) (hpl : (backTo pos (starEach es X.env)).any (·.1) = false := by rfl) : JV X (.Call (.Name x p) (e :: es) [] pos) (dCl cV k) :=
  PEi (pe_callB hc hg hm hv ha hn hdb he hpl) (callS_run s)
theorem jcT (hc : CallR X (.type T) r) (s : CallS r cV) (ha : JRs X (e :: es) k) (hg : Gl X x) (hm : X.mg x = none) (hv : bootBuiltins x = some (.type T)) (hn : x ≠ "__name__" := by decide) (hdb : (x == ("__debug__" : Str)) = false := by decide)
    (he : starEach (e :: es) X.env = (false, eval e X.env) :: starEach es X.env := by rfl) (hpl : (backTo pos (starEach es X.env)).any (·.1) = false := by rfl) : JV X (.Call (.Name x p) (e :: es) [] pos) (dCl cV k) :=
  PEi (pe_callTy hc hg hm hv ha hn hdb he hpl) (callS_run s)
end
theorem rdb1 {aT : Addr} {Hs H : Hp} {ws : List V} {d : D} (r : Rdbs aT Hs H ws [d]) : ∃ w, ws = [w] ∧ Rdb aT Hs H w d := by
  cases r with
  | cons a b => cases b; exact ⟨_, rfl, a⟩
theorem rdb2 {aT : Addr} {Hs H : Hp} {ws : List V} {d e : D} (r : Rdbs aT Hs H ws [d, e]) : ∃ w v, ws = [w, v] ∧ Rdb aT Hs H w d ∧ Rdb aT Hs H v e := by
  cases r with
  | cons a b =>
    obtain ⟨v, rfl, c⟩ := rdb1 b
    exact ⟨_, _, rfl, a, c⟩
theorem rdb3 {aT : Addr} {Hs H : Hp} {ws : List V} {d e f : D} (r : Rdbs aT Hs H ws [d, e, f]) : ∃ w v u, ws = [w, v, u] ∧ Rdb aT Hs H w d ∧ Rdb aT Hs H v e ∧ Rdb aT Hs H u f := by
  cases r with
  | cons a b =>
    obtain ⟨v, u, rfl, c, d⟩ := rdb2 b
    exact ⟨_, _, _, rfl, a, c, d⟩
/-! ### len -/
def lenV (ds : List D) : Option Vl := match ds with
  | [.list xs] => some (.sh (.int xs.length))
  | [.tuple xs] => some (.sh (.int xs.length))
  | [.str x] => if x.length ≤ 16777216 then some (.sh (.int x.length)) else none
  | _ => none
theorem len_s {K : PySem.W.Frag} : CallS (fun xs H Q => ∃ x n, xs = [x] ∧ LenV K x H n ∧ Q (.int n) H) lenV := by
  intro g Hs H τ ws ds v Q le tp r e q
  unfold lenV at e
  split at e
  · cases e
    obtain ⟨w, rfl, r1⟩ := rdb1 r
    obtain ⟨p, xs, rfl, hp, hl, hr⟩ := r1.list le
    refine ⟨_, _, rfl, .inl ⟨xs, .of hp, hr.len.symm⟩, q.d le tp (.int _)⟩
  · cases e
    obtain ⟨w, rfl, r1⟩ := rdb1 r
    obtain ⟨p, xs, rfl, hp, hl, hr⟩ := r1.tuple
    refine ⟨_, _, rfl, .inr ⟨xs, (hp.mono le).sq, hr.len.symm⟩, q.d le tp (.int _)⟩
  · split at e
    · cases e
      obtain ⟨w, rfl, r1⟩ := rdb1 r
      have := r1.str
      subst this
      refine ⟨_, _, rfl, ⟨by rw [line_eq]; assumption, rfl⟩, q.d le tp (.int _)⟩
    · cases e
  · cases e
/-! ### abs, min, max -/
def absI (i : Int) : Int := if i < 0 then -i else i
def absC (ds : List D) : Option Vl := match ds with
  | [.int i] => some (.sh (.int (absI i)))
  | _ => none
theorem abs_s : CallS (fun xs H Q => ∃ i, xs = [.int i] ∧ Q (.int (if i < 0 then -i else i)) H) absC := by
  intro g Hs H τ ws ds v Q le tp r e q
  unfold absC at e
  split at e
  · cases e
    obtain ⟨w, rfl, r1⟩ := rdb1 r
    exact ⟨_, by rw [r1.int], q.d le tp (.int _)⟩
  · cases e
def max2 (ds : List D) : Option Vl := match ds with
  | [.int i, .int j] => some (.sh (.int (if j > i then j else i)))
  | _ => none
def min2 (ds : List D) : Option Vl := match ds with
  | [.int i, .int j] => some (.sh (.int (if j < i then j else i)))
  | _ => none
theorem max2_s : CallS (fun xs H Q => ∃ i j, xs = [.int i, .int j] ∧ Q (.int (if j > i then j else i)) H) max2 := by
  intro g Hs H τ ws ds v Q le tp r e q
  unfold max2 at e
  split at e
  · cases e
    obtain ⟨w, u, rfl, r1, r2⟩ := rdb2 r
    exact ⟨_, _, by rw [r1.int, r2.int], q.d le tp (.int _)⟩
  · cases e
theorem min2_s : CallS (fun xs H Q => ∃ i j, xs = [.int i, .int j] ∧ Q (.int (if j < i then j else i)) H) min2 := by
  intro g Hs H τ ws ds v Q le tp r e q
  unfold min2 at e
  split at e
  · cases e
    obtain ⟨w, u, rfl, r1, r2⟩ := rdb2 r
    exact ⟨_, _, by rw [r1.int, r2.int], q.d le tp (.int _)⟩
  · cases e
/-! min, max of a list (or tuple) of alike data -/
def alk (xs : List D) : Bool := xs.all fun x => nn x && xs.all fun y => W.alike x y
theorem alk_of {xs : List D} (h : alk xs = true) : W.AlikeAll xs := by
  unfold alk at h
  rw [List.all_eq_true] at h
  refine ⟨fun x hx y hy => ?_, fun x hx => ?_⟩
  · have := h x hx
    rw [Bool.and_eq_true, List.all_eq_true] at this
    exact this.2 y hy
  · have := h x hx
    rw [Bool.and_eq_true] at this
    exact nn_ne this.1
def minL (ds : List D) : Option Vl := match ds with
  | [.list (x :: xs)] => if alk (x :: xs) = true ∧ PyData.depthAll (x :: xs) ≤ 60 then some (.sh (W.minD x xs)) else none
  | [.tuple (x :: xs)] => if alk (x :: xs) = true ∧ PyData.depthAll (x :: xs) ≤ 60 then some (.sh (W.minD x xs)) else none
  | _ => none
def maxL (ds : List D) : Option Vl := match ds with
  | [.list (x :: xs)] => if alk (x :: xs) = true ∧ PyData.depthAll (x :: xs) ≤ 60 then some (.sh (W.maxD x xs)) else none
  | [.tuple (x :: xs)] => if alk (x :: xs) = true ∧ PyData.depthAll (x :: xs) ≤ 60 then some (.sh (W.maxD x xs)) else none
  | _ => none
/-- the least (greatest) item, as it stands -/
def rPick (pick : D → List D → D) : List V → Hp → VK → Prop := fun vs H Q => ∃ (a : Addr) (xs : List V) (x : D) (ds : List D) (K : PySem.W.Frag), vs = [V.ref a] ∧ (H a = some (.lst xs) ∨ H a = some (.tup xs)) ∧ DpAll K H xs (x :: ds) ∧ alk (x :: ds) = true ∧ PyData.depthAll (x :: ds) ≤ 60 ∧
  ∀ (i : Nat) (w : V), xs[i]? = some w → (x :: ds)[i]? = some (pick x ds) → Q w H
theorem dpAll_get {K : PySem.W.Frag} {H : Hp} : ∀ {vs : List V} {ds : List D} {i : Nat} {v : V}, DpAll K H vs ds → vs[i]? = some v → ∃ d, ds[i]? = some d ∧ Dp K H v d
  | _, _, _, _, .nil, e => by simp at e
  | _, _, 0, v, .cons h1 h2, e => by simp at e; subst e; exact ⟨_, rfl, h1⟩
  | _, _, i + 1, v, .cons h1 h2, e => by
    obtain ⟨d, h3, h4⟩ := dpAll_get (i := i) (v := v) h2 (by simpa using e)
    exact ⟨d, by simpa using h3, h4⟩
section
variable {X : Cx}
theorem vals_at : ∀ {xs : List V} {us : List Value} {i : Nat} {u : Value}, Vals xs us → us[i]? = some u → ∃ x, xs[i]? = some x ∧ RelV x u
  | _, _, _, _, .nil, e => by simp at e
  | _, _, 0, _, .cons r _, e => by simp at e; subst e; exact ⟨_, rfl, r⟩
  | _, _, i + 1, u, .cons _ t, e => by
    obtain ⟨x, h1, h2⟩ := vals_at (i := i) (u := u) t (by simpa using e)
    exact ⟨x, by simpa using h1, h2⟩
theorem pick_run {K0 : PySem.W.Frag} {pins : List (Addr × Obj)} {s : Shared} {σ : Sl} {H : Hp} {Q : VK} {xs : List V} {its : List Value} {x m : D} {ds : List D} (I : Inv X pins σ H s) (hK : DpAll X.K H xs (x :: ds)) (rv : Vals xs its)
    (q : ∀ (i : Nat) (w : V), xs[i]? = some w → (x :: ds)[i]? = some m → Q w H) :
    ∀ (i : Nat) (v : Value) (h' : Heap) (tk : Nat) (bs : List Addr), its.toArray[i]? = some v → Reads h' v m bs → (∀ b o, s.heap.get? b = some o → h'.get? b = some o) → EP X pins σ Q v { s with heap := h', toks := tk } := by
  intro i v h' tk bs hi hr hk
  have hi' : its[i]? = some v := by simpa using hi
  obtain ⟨w, hw, rw'⟩ := vals_at rv hi'
  have I' : Inv X pins σ H { s with heap := h', toks := tk } := I.kept hk
  obtain ⟨d, hd, hdp⟩ := dpAll_get hK hw
  obtain ⟨as, hrd⟩ := L2.Dp.reads I' d w v hdp rw'
  have e := SeqAt.plain_unique d m v as bs (Dp.plain d w hdp) hrd hr
  subst e
  exact ⟨w, H, I', rw', q i w hw hd⟩
theorem dpK {K K' : PySem.W.Frag} {H : Hp} {xs : List V} {ds : List D} {Hs : Hp} (h : Rps Hs xs ds) (le : Same Hs H) : DpAll K H xs ds := Rps.dp _ _ (h.to le)
def rPickK (K : PySem.W.Frag) (pick : D → List D → D) : List V → Hp → VK → Prop := fun vs H Q => ∃ (a : Addr) (xs : List V) (x : D) (ds : List D), vs = [V.ref a] ∧ (SqL K H a xs ∨ SqT K H a xs) ∧ DpAll K H xs (x :: ds) ∧ alk (x :: ds) = true ∧ PyData.depthAll (x :: ds) ≤ 60 ∧
  ∀ (i : Nat) (w : V), xs[i]? = some w → (x :: ds)[i]? = some (pick x ds) → Q w H
theorem room61 {n : Nat} (hu : X.A.units + 64 < cLine) (h : n ≤ 60) : X.A.units + 1 + n < cLine := Nat.lt_of_le_of_lt (by omega) hu
theorem cr_minL (hc : X.calm = true) (hu : X.A.units + 64 < cLine) : CallR X (.builtin "min") (rPickK X.K W.minD) := by
  intro pins s σ H vs us Q I r h
  obtain ⟨a, xs, x, ds, rfl, hs, hK, ha, hd, q⟩ := h
  rw [Vals.ref1 r]
  rcases hs with hs | hs
  · obtain ⟨its, rv, hl, _⟩ := I.list hs
    obtain ⟨as, hr⟩ := L2.Dp.readsAll I _ _ its hK rv
    exact W.min_list_data (I.ok.hd hc) hl.isList (vs := its.toArray) hr (alk_of ha) (room61 hu hd) (pick_run (K0 := X.K) I hK rv q)
  · obtain ⟨its, rv, hl, _⟩ := I.tuple hs
    obtain ⟨as, hr⟩ := L2.Dp.readsAll I _ _ its hK rv
    exact W.min_tuple_data (I.ok.hd hc) (show s.heap.IsTuple a its.toArray from hl) (vs := its.toArray) hr (alk_of ha) (room61 hu hd) (pick_run (K0 := X.K) I hK rv q)
theorem cr_maxL (hc : X.calm = true) (hu : X.A.units + 64 < cLine) : CallR X (.builtin "max") (rPickK X.K W.maxD) := by
  intro pins s σ H vs us Q I r h
  obtain ⟨a, xs, x, ds, rfl, hs, hK, ha, hd, q⟩ := h
  rw [Vals.ref1 r]
  rcases hs with hs | hs
  · obtain ⟨its, rv, hl, _⟩ := I.list hs
    obtain ⟨as, hr⟩ := L2.Dp.readsAll I _ _ its hK rv
    exact W.max_list_data (I.ok.hd hc) hl.isList (vs := its.toArray) hr (alk_of ha) (room61 hu hd) (pick_run (K0 := X.K) I hK rv q)
  · obtain ⟨its, rv, hl, _⟩ := I.tuple hs
    obtain ⟨as, hr⟩ := L2.Dp.readsAll I _ _ its hK rv
    exact W.max_tuple_data (I.ok.hd hc) (show s.heap.IsTuple a its.toArray from hl) (vs := its.toArray) hr (alk_of ha) (room61 hu hd) (pick_run (K0 := X.K) I hK rv q)
theorem pick_s {K : PySem.W.Frag} {pick : D → List D → D} {cV : List D → Option Vl}
    (hc : ∀ ds v, cV ds = some v → ∃ x xs, (ds = [.list (x :: xs)] ∨ ds = [.tuple (x :: xs)]) ∧ alk (x :: xs) = true ∧ PyData.depthAll (x :: xs) ≤ 60 ∧ v = .sh (pick x xs)) : CallS (rPickK K pick) cV := by
  intro g Hs H τ ws ds v Q le tp r e q
  obtain ⟨x, xs, hds, ha, hd, rfl⟩ := hc ds v e
  rcases hds with rfl | rfl
  · obtain ⟨w, rfl, r1⟩ := rdb1 r
    obtain ⟨p, vs, rfl, hp, hl, hr⟩ := r1.list le
    refine ⟨p, vs, x, xs, rfl, .inl (.of hp), Rps.dp _ _ (hr.to le), ha, hd, fun i w hw hi => ?_⟩
    obtain ⟨d, hd', hrp⟩ := hr.get' hw
    rw [hi] at hd'
    cases hd'
    exact q.d le tp hrp
  · obtain ⟨w, rfl, r1⟩ := rdb1 r
    obtain ⟨p, vs, rfl, hp, hl, hr⟩ := r1.tuple
    refine ⟨p, vs, x, xs, rfl, .inr (hp.mono le).sq, Rps.dp _ _ (hr.to le), ha, hd, fun i w hw hi => ?_⟩
    obtain ⟨d, hd', hrp⟩ := hr.get' hw
    rw [hi] at hd'
    cases hd'
    exact q.d le tp hrp
theorem minL_s {K : PySem.W.Frag} : CallS (rPickK K W.minD) minL := pick_s fun ds v e => by
  unfold minL at e
  split at e
  · split at e
    · rename_i hc; cases e; exact ⟨_, _, .inl rfl, hc.1, hc.2, rfl⟩
    · cases e
  · split at e
    · rename_i hc; cases e; exact ⟨_, _, .inr rfl, hc.1, hc.2, rfl⟩
    · cases e
  · cases e
theorem maxL_s {K : PySem.W.Frag} : CallS (rPickK K W.maxD) maxL := pick_s fun ds v e => by
  unfold maxL at e
  split at e
  · split at e
    · rename_i hc; cases e; exact ⟨_, _, .inl rfl, hc.1, hc.2, rfl⟩
    · cases e
  · split at e
    · rename_i hc; cases e; exact ⟨_, _, .inr rfl, hc.1, hc.2, rfl⟩
    · cases e
  · cases e
end
/-! ### int(b), sum, any, all -/
def intC (ds : List D) : Option Vl := match ds with
  | [.int i] => some (.sh (.int i))
  | [.bool b] => some (.sh (.int (if b then 1 else 0)))
  | _ => none
theorem int_s : CallS (fun xs H Q => (∃ i, xs = [.int i] ∧ Q (.int i) H) ∨ ∃ k, xs = [.bl k] ∧ Q (.int (if k then 1 else 0)) H) intC := by
  intro g Hs H τ ws ds v Q le tp r e q
  unfold intC at e
  split at e
  · cases e
    obtain ⟨w, rfl, r1⟩ := rdb1 r
    exact .inl ⟨_, by rw [r1.int], q.d le tp (.int _)⟩
  · cases e
    obtain ⟨w, rfl, r1⟩ := rdb1 r
    exact .inr ⟨_, by rw [r1.bool], q.d le tp (.int _)⟩
  · cases e
/-- a list of ints, of truths -/
def toInts : List D → Option (List Int)
  | [] => some []
  | .int i :: r => (toInts r).map (i :: ·)
  | _ :: _ => none
def toBls : List D → Option (List Bool)
  | [] => some []
  | .bool i :: r => (toBls r).map (i :: ·)
  | _ :: _ => none
theorem toInts_eq : ∀ {xs : List D} {ns : List Int}, toInts xs = some ns → xs = ns.map PyData.int
  | [], ns, h => by cases h; rfl
  | .int i :: r, ns, h => by
    unfold toInts at h
    cases e : toInts r with
    | none => rw [e] at h; cases h
    | some m => rw [e] at h; cases h; rw [toInts_eq e]; rfl
  | .none :: r, ns, h => by cases h
  | .bool _ :: r, ns, h => by cases h
  | .str _ :: r, ns, h => by cases h
  | .list _ :: r, ns, h => by cases h
  | .tuple _ :: r, ns, h => by cases h
  | .dict _ :: r, ns, h => by cases h
theorem toBls_eq : ∀ {xs : List D} {ns : List Bool}, toBls xs = some ns → xs = ns.map PyData.bool
  | [], ns, h => by cases h; rfl
  | .bool i :: r, ns, h => by
    unfold toBls at h
    cases e : toBls r with
    | none => rw [e] at h; cases h
    | some m => rw [e] at h; cases h; rw [toBls_eq e]; rfl
  | .none :: r, ns, h => by cases h
  | .int _ :: r, ns, h => by cases h
  | .str _ :: r, ns, h => by cases h
  | .list _ :: r, ns, h => by cases h
  | .tuple _ :: r, ns, h => by cases h
  | .dict _ :: r, ns, h => by cases h
theorem toInts_map : ∀ ns : List Int, toInts (ns.map PyData.int) = some ns
  | [] => rfl
  | n :: ns => by
    show (toInts (ns.map PyData.int)).map (n :: ·) = _
    rw [toInts_map ns]; rfl
theorem toBls_map : ∀ ns : List Bool, toBls (ns.map PyData.bool) = some ns
  | [] => rfl
  | n :: ns => by
    show (toBls (ns.map PyData.bool)).map (n :: ·) = _
    rw [toBls_map ns]; rfl
def sumC (ds : List D) : Option Vl := match ds with
  | [.list xs] => (toInts xs).map fun ns => .sh (.int ns.sum)
  | _ => none
def anyC (ds : List D) : Option Vl := match ds with
  | [.list xs] => (toBls xs).map fun ns => .sh (.bool (ns.any id))
  | _ => none
def allC (ds : List D) : Option Vl := match ds with
  | [.list xs] => (toBls xs).map fun ns => .sh (.bool (ns.all id))
  | _ => none
theorem sum_s {K : PySem.W.Frag} : CallS (rSum K) sumC := by
  intro g Hs H τ ws ds v Q le tp r e q
  unfold sumC at e
  split at e
  · rename_i xs
    cases en : toInts xs with
    | none => rw [en] at e; cases e
    | some ns =>
      rw [en] at e; cases e
      have := toInts_eq en
      subst this
      obtain ⟨w, rfl, r1⟩ := rdb1 r
      obtain ⟨p, vs, rfl, hp, hl, hr⟩ := r1.list le
      have := hr.to_ints
      subst this
      exact ⟨p, ns, rfl, .of hp, q.d le tp (.int _)⟩
  · cases e
theorem any_s {K : PySem.W.Frag} : CallS (rAny K) anyC := by
  intro g Hs H τ ws ds v Q le tp r e q
  unfold anyC at e
  split at e
  · rename_i xs
    cases en : toBls xs with
    | none => rw [en] at e; cases e
    | some ns =>
      rw [en] at e; cases e
      have := toBls_eq en
      subst this
      obtain ⟨w, rfl, r1⟩ := rdb1 r
      obtain ⟨p, vs, rfl, hp, hl, hr⟩ := r1.list le
      have := hr.to_bls
      subst this
      exact ⟨p, ns, rfl, .of hp, q.d le tp (.bl _)⟩
  · cases e
theorem all_s {K : PySem.W.Frag} : CallS (rAll K) allC := by
  intro g Hs H τ ws ds v Q le tp r e q
  unfold allC at e
  split at e
  · rename_i xs
    cases en : toBls xs with
    | none => rw [en] at e; cases e
    | some ns =>
      rw [en] at e; cases e
      have := toBls_eq en
      subst this
      obtain ⟨w, rfl, r1⟩ := rdb1 r
      obtain ⟨p, vs, rfl, hp, hl, hr⟩ := r1.list le
      have := hr.to_bls
      subst this
      exact ⟨p, ns, rfl, .of hp, q.d le tp (.bl _)⟩
  · cases e
/-! ### list(x), tuple(x) -/
def listC (ds : List D) : Option Vl := match ds with
  | [.list xs] => some (.ow xs)
  | [.tuple xs] => some (.ow xs)
  | _ => none
def tupC (ds : List D) : Option Vl := match ds with
  | [.list xs] => some (.sh (.tuple xs))
  | [.tuple xs] => some (.sh (.tuple xs))
  | _ => none
theorem list_s {K : PySem.W.Frag} : CallS (fun xs H Q => ∃ p ys, xs = [.ref p] ∧ (SqL K H p ys ∨ SqT K H p ys) ∧ ∀ l, H l = none → Q (.ref l) (upd H l (.lst ys))) listC := by
  intro g Hs H τ ws ds v Q le tp r e q
  unfold listC at e
  split at e
  · cases e
    obtain ⟨w, rfl, r1⟩ := rdb1 r
    obtain ⟨p, vs, rfl, hp, hl, hr⟩ := r1.list le
    exact ⟨p, vs, rfl, .inl (.of hp), fun l hp' => q.lst le tp hl hr l hp'⟩
  · cases e
    obtain ⟨w, rfl, r1⟩ := rdb1 r
    obtain ⟨p, vs, rfl, hp, hl, hr⟩ := r1.tuple
    exact ⟨p, vs, rfl, .inr (hp.mono le).sq, fun l hp' => q.lst le tp hl hr l hp'⟩
  · cases e
theorem tup_s {K : PySem.W.Frag} : CallS (rTupN K) tupC := by
  intro g Hs H τ ws ds v Q le tp r e q
  unfold tupC at e
  split at e
  · cases e
    obtain ⟨w, rfl, r1⟩ := rdb1 r
    obtain ⟨p, vs, rfl, hp, hl, hr⟩ := r1.list le
    exact ⟨p, vs, rfl, .inl ⟨.of hp, q.tup le tp hl hr⟩⟩
  · cases e
    obtain ⟨w, rfl, r1⟩ := rdb1 r
    obtain ⟨p, vs, rfl, hp, hl, hr⟩ := r1.tuple
    exact ⟨p, vs, rfl, .inr ⟨(hp.mono le).sq, q.d le tp (.tup hp hl hr)⟩⟩
  · cases e
/-! ### the rules, by name -/
section
variable {X : Cx} {p pos : Pos} {e e2 : Expr} {k : DA}
theorem jlen (hm : X.mg "len" = none) (ha : JRs X [e] k) (hg : Gl X "len" := by rfl) (he : starEach [e] X.env = (false, eval e X.env) :: starEach [] X.env := by rfl) (hpl : (backTo pos (starEach [] X.env)).any (·.1) = false := by rfl) : JV X (.Call (.Name "len" p) [e] [] pos) (dCl lenV k) :=
  jcB call_len len_s ha hg hm boot_len (by decide) (by decide) he hpl
theorem jabs (hm : X.mg "abs" = none) (ha : JRs X [e] k) (hg : Gl X "abs" := by rfl) (he : starEach [e] X.env = (false, eval e X.env) :: starEach [] X.env := by rfl) (hpl : (backTo pos (starEach [] X.env)).any (·.1) = false := by rfl) : JV X (.Call (.Name "abs" p) [e] [] pos) (dCl absC k) :=
  jcB call_abs abs_s ha hg hm (by decide +kernel) (by decide) (by decide) he hpl
theorem jmax2 (hm : X.mg "max" = none) (ha : JRs X [e, e2] k) (hc : X.calm = true := by rfl) (hg : Gl X "max" := by rfl) (he : starEach [e, e2] X.env = (false, eval e X.env) :: starEach [e2] X.env := by rfl) (hpl : (backTo pos (starEach [e2] X.env)).any (·.1) = false := by rfl) : JV X (.Call (.Name "max" p) [e, e2] [] pos) (dCl max2 k) :=
  jcB (call_max2 hc) max2_s ha hg hm (by decide +kernel) (by decide) (by decide) he hpl
theorem jmin2 (hm : X.mg "min" = none) (ha : JRs X [e, e2] k) (hc : X.calm = true := by rfl) (hg : Gl X "min" := by rfl) (he : starEach [e, e2] X.env = (false, eval e X.env) :: starEach [e2] X.env := by rfl) (hpl : (backTo pos (starEach [e2] X.env)).any (·.1) = false := by rfl) : JV X (.Call (.Name "min" p) [e, e2] [] pos) (dCl min2 k) :=
  jcB (call_min2 hc) min2_s ha hg hm (by decide +kernel) (by decide) (by decide) he hpl
theorem jminL (hm : X.mg "min" = none) (hu : X.A.units + 64 < cLine) (ha : JRs X [e] k) (hc : X.calm = true := by rfl) (hg : Gl X "min" := by rfl) (he : starEach [e] X.env = (false, eval e X.env) :: starEach [] X.env := by rfl) (hpl : (backTo pos (starEach [] X.env)).any (·.1) = false := by rfl) : JV X (.Call (.Name "min" p) [e] [] pos) (dCl minL k) :=
  jcB (cr_minL hc hu) minL_s ha hg hm (by decide +kernel) (by decide) (by decide) he hpl
theorem jmaxL (hm : X.mg "max" = none) (hu : X.A.units + 64 < cLine) (ha : JRs X [e] k) (hc : X.calm = true := by rfl) (hg : Gl X "max" := by rfl) (he : starEach [e] X.env = (false, eval e X.env) :: starEach [] X.env := by rfl) (hpl : (backTo pos (starEach [] X.env)).any (·.1) = false := by rfl) : JV X (.Call (.Name "max" p) [e] [] pos) (dCl maxL k) :=
  jcB (cr_maxL hc hu) maxL_s ha hg hm (by decide +kernel) (by decide) (by decide) he hpl
theorem jintc (hm : X.mg "int" = none) (ha : JRs X [e] k) (hg : Gl X "int" := by rfl) (he : starEach [e] X.env = (false, eval e X.env) :: starEach [] X.env := by rfl) (hpl : (backTo pos (starEach [] X.env)).any (·.1) = false := by rfl) : JV X (.Call (.Name "int" p) [e] [] pos) (dCl intC k) :=
  jcT call_int1 int_s ha hg hm (by decide +kernel) (by decide) (by decide) he hpl
theorem jsum (hm : X.mg "sum" = none) (ha : JRs X [e] k) (hc : X.calm = true := by rfl) (hg : Gl X "sum" := by rfl) (he : starEach [e] X.env = (false, eval e X.env) :: starEach [] X.env := by rfl) (hpl : (backTo pos (starEach [] X.env)).any (·.1) = false := by rfl) : JV X (.Call (.Name "sum" p) [e] [] pos) (dCl sumC k) :=
  jcB (cr_sum hc) sum_s ha hg hm (by decide +kernel) (by decide) (by decide) he hpl
theorem jany (hm : X.mg "any" = none) (ha : JRs X [e] k) (hc : X.calm = true := by rfl) (hg : Gl X "any" := by rfl) (he : starEach [e] X.env = (false, eval e X.env) :: starEach [] X.env := by rfl) (hpl : (backTo pos (starEach [] X.env)).any (·.1) = false := by rfl) : JV X (.Call (.Name "any" p) [e] [] pos) (dCl anyC k) :=
  jcB (cr_any hc) any_s ha hg hm (by decide +kernel) (by decide) (by decide) he hpl
theorem jall (hm : X.mg "all" = none) (ha : JRs X [e] k) (hc : X.calm = true := by rfl) (hg : Gl X "all" := by rfl) (he : starEach [e] X.env = (false, eval e X.env) :: starEach [] X.env := by rfl) (hpl : (backTo pos (starEach [] X.env)).any (·.1) = false := by rfl) : JV X (.Call (.Name "all" p) [e] [] pos) (dCl allC k) :=
  jcB (cr_all hc) all_s ha hg hm (by decide +kernel) (by decide) (by decide) he hpl
theorem jlist (hm : X.mg "list" = none) (ha : JRs X [e] k) (hg : Gl X "list" := by rfl) (he : starEach [e] X.env = (false, eval e X.env) :: starEach [] X.env := by rfl) (hpl : (backTo pos (starEach [] X.env)).any (·.1) = false := by rfl) : JV X (.Call (.Name "list" p) [e] [] pos) (dCl listC k) :=
  jcT call_list_of list_s ha hg hm (by decide +kernel) (by decide) (by decide) he hpl
theorem jtuple (hm : X.mg "tuple" = none) (ha : JRs X [e] k) (hg : Gl X "tuple" := by rfl) (he : starEach [e] X.env = (false, eval e X.env) :: starEach [] X.env := by rfl) (hpl : (backTo pos (starEach [] X.env)).any (·.1) = false := by rfl) : JV X (.Call (.Name "tuple" p) [e] [] pos) (dCl tupC k) :=
  jcT call_tupN tup_s ha hg hm (by decide +kernel) (by decide) (by decide) he hpl
end
end Pv
namespace Pv
open PySem L2 PySem.Spec PyProof.Rows
variable [Tbl]
section
variable {prog : Program} {w : World} {A : Around} {E : Value → Shared → Prop} {s : Shared}
theorem each_two {α β : Type} {R S : α → β → Prop} : ∀ {as : List α} {bs : List β}, W.EachIs R as bs → W.EachIs S as bs → W.EachIs (fun a b => R a b ∧ S a b) as bs
  | _, _, .nil, .nil => .nil
  | _, _, .cons a t, .cons b u => .cons ⟨a, b⟩ (each_two t u)
/-- sorted(x): what x's walk gives, sorted -/
theorem sorted_col {R : Value → D → Prop} {l : Addr} {vs : List Value} {bs : List D} {Q : Value → Shared → Prop}
    (hcol : ∀ (E' : Value → Shared → Prop) (Q' : List Value → Shared → Prop), (∀ h' tk, (∀ b o, s.heap.get? b = some o → h'.get? b = some o) → Q' vs { s with heap := h', toks := tk }) → wpAny (model prog w) A.in1 (collect (.ref l)) Q' E' s)
    (hL : vs.length ≤ sizeLine) (e : W.EachIs R vs bs) (er : W.EachIs (fun v b => ∃ as, Reads s.heap v b as) vs bs) (hal : W.AllAlike bs) (hk : W.Sortable bs) (hu : ∀ b, b ∈ bs → A.units + 2 + b.depth < cLine)
    (h : ∀ (out : List Value) (n : Nat) (h1 h' : Heap) (tk : Nat), (∀ b o, s.heap.get? b = some o → h1.get? b = some o) → (∀ b o, h1.get? b = some o → h'.get? b = some o) → h'.get? h1.objs.size = some { cls := .type "list", data := .seq out.toArray n } → W.EachIs R out (bs.mergeSort (W.dataLe false id)) → Q (.ref h1.objs.size) { s with heap := h', toks := tk }) :
    wpAny (model prog w) A (call (.builtin "sorted") [.ref l]) Q E s := by
  refine Calls.call_function_entry kind_sorted plain_sorted entry_sorted (args_sorted1 _) ?_
  unfold Builtin.«sorted»
  refine wpAny_bind (m := checkCount "sorted" 1 1 _) (wpAny_pure ?_)
  refine wpAny_bind (hcol _ _ fun h1 tk1 k1 => ?_)
  refine wpAny_bind (wpAny_newList ?_ hL)
  have hp0 : (h1.push { cls := .type "list", data := .seq vs.toArray }).get? h1.objs.size = some (seqObj "list" vs.toArray 0) := Heap.get?_push_size _ rfl
  have k2 : ∀ b o, h1.get? b = some o → (h1.push { cls := .type "list", data := .seq vs.toArray }).get? b = some o := fun b o q => Heap.get?_push_of_some _ q
  have er2 : W.EachIs (fun v b => ∃ as, Reads (h1.push { cls := .type "list", data := .seq vs.toArray }) v (id b) as ∧ h1.objs.size ∉ as) vs bs := er.mono fun v b ⟨as, r⟩ => ⟨as, PyProof.Rows.Reads.keeps (fun b o q => k2 b o (k1 b o q)) r, fun hm => by
    obtain ⟨o, ho⟩ := PyProof.On.reads_mem_get r _ hm
    exact absurd (Heap.lt_size (k1 _ _ ho)) (Nat.lt_irrefl _)⟩
  refine wpAny_bind (wpAny_holding (W.list_sort_data (enc := id) hp0 e er2 (by rw [List.map_id]; exact hal) (by rw [List.map_id]; exact hk) (by rw [← e.length]; exact hL) (fun b hb => ?_) fun out ho eo => ?_))
  · exact Nat.lt_of_le_of_lt (by show A.in1.units + 1 + b.depth ≤ A.units + 2 + b.depth; exact Nat.add_le_add_right (Nat.le_refl (A.units + 1 + 1)) _) (hu b hb)
  · obtain ⟨n, hn⟩ := sortedHeap_at (vs := vs) (out := out.toArray) hp0
    refine wpAny_pure ⟨_, rfl, h out n h1 _ tk1 k1 (fun b o q => ?_) hn eo⟩
    have hlt := Heap.lt_size q
    rw [sortedHeap_old (Nat.ne_of_lt hlt) (by rw [size_push']; exact Nat.lt_succ_of_lt hlt)]
    exact k2 b o q
end
/-! ### by values -/
/-- merging, sorting: as the library does, by fuel -/
def mgF {α : Type} (le : α → α → Bool) : Nat → List α → List α → List α
  | 0, xs, ys => xs ++ ys
  | n + 1, [], ys => ys
  | n + 1, x :: xs, [] => x :: xs
  | n + 1, x :: xs, y :: ys => if le x y = true then x :: mgF le n xs (y :: ys) else y :: mgF le n (x :: xs) ys
theorem mgF_eq {α : Type} (le : α → α → Bool) : ∀ (n : Nat) (xs ys : List α), xs.length + ys.length ≤ n → mgF le n xs ys = List.merge xs ys le
  | 0, [], [], _ => by simp [mgF]
  | 0, x :: xs, ys, h => by simp at h
  | 0, [], y :: ys, h => by simp at h
  | n + 1, [], ys, _ => by simp [mgF]
  | n + 1, x :: xs, [], _ => by simp [mgF]
  | n + 1, x :: xs, y :: ys, h => by
    have h1 := mgF_eq le n xs (y :: ys) (by simp at h ⊢; omega)
    have h2 := mgF_eq le n (x :: xs) ys (by simp at h ⊢; omega)
    rw [mgF, h1, h2, List.cons_merge_cons]
def msF {α : Type} (le : α → α → Bool) : Nat → List α → List α
  | 0, xs => xs
  | _ + 1, [] => []
  | _ + 1, [a] => [a]
  | n + 1, a :: b :: xs => mgF le (xs.length + 2) (msF le n ((a :: b :: xs).take ((xs.length + 3) / 2))) (msF le n ((a :: b :: xs).drop ((xs.length + 3) / 2)))
theorem msF_eq {α : Type} (le : α → α → Bool) : ∀ (n : Nat) (xs : List α), xs.length ≤ n → msF le n xs = xs.mergeSort le
  | 0, [], _ => by simp [msF]
  | 0, x :: xs, h => by simp at h
  | n + 1, [], _ => by simp [msF]
  | n + 1, [a], _ => by simp [msF]
  | n + 1, a :: b :: xs, h => by
    have h1 := msF_eq le n ((a :: b :: xs).take ((xs.length + 3) / 2)) (by rw [List.length_take]; simp at h ⊢; omega)
    have h2 := msF_eq le n ((a :: b :: xs).drop ((xs.length + 3) / 2)) (by rw [List.length_drop]; simp at h ⊢; omega)
    rw [msF, h1, h2, mgF_eq, List.mergeSort]
    · simp [List.MergeSort.Internal.splitInTwo_fst, List.MergeSort.Internal.splitInTwo_snd]
    · rw [List.length_mergeSort, List.length_mergeSort, List.length_take, List.length_drop]; simp; omega
def srtD (ds : List D) : List D := msF (W.dataLe false id) ds.length ds
theorem srtD_def (ds : List D) : srtD ds = ds.mergeSort (W.dataLe false id) := msF_eq _ _ _ (Nat.le_refl _)
def allk (xs : List D) : Bool := xs.all fun x => xs.all fun y => W.alike x y
def sbl (xs : List D) : Bool := (xs.all fun d => match d with | .tuple (_ :: _) => true | _ => false) || (xs.all fun d => match d with | .none => false | .tuple _ => false | _ => true)
theorem allk_of {xs : List D} (h : allk xs = true) : W.AllAlike xs := by
  unfold allk at h
  rw [List.all_eq_true] at h
  intro x hx y hy
  have := h x hx
  rw [List.all_eq_true] at this
  exact this y hy
theorem sbl_of {xs : List D} (h : sbl xs = true) : W.Sortable xs := by
  unfold sbl at h
  rw [Bool.or_eq_true, List.all_eq_true, List.all_eq_true] at h
  rcases h with h | h
  · refine .inl fun d hd => ?_
    have := h d hd
    split at this
    · exact ⟨_, _, rfl⟩
    · cases this
  · refine .inr fun d hd => ?_
    have := h d hd
    split at this
    · cases this
    · cases this
    · rename_i h1 h2
      exact ⟨h1, fun xs e => h2 xs e⟩
def srtOk (xs : List D) : Bool := allk xs && sbl xs && decide (PyData.depthAll xs ≤ 60)
theorem depth_mem : ∀ {xs : List D} {x : D}, x ∈ xs → x.depth ≤ PyData.depthAll xs
  | y :: ys, x, h => by
    rw [PyData.depthAll]
    rcases List.mem_cons.mp h with e | h
    · subst e; exact Nat.le_max_left _ _
    · exact Nat.le_trans (depth_mem h) (Nat.le_max_right _ _)
theorem vals_each {R : V → D → Prop} : ∀ {xs : List V} {us : List Value} {ds : List D}, Vals xs us → Paired R xs ds → W.EachIs (fun u d => ∃ w, RelV w u ∧ R w d) us ds
  | _, _, _, .nil, .nil => .nil
  | _, _, _, .cons r t, .cons a b => .cons ⟨_, r, a⟩ (vals_each t b)
theorem each_vals {R : V → D → Prop} : ∀ {us : List Value} {ds : List D}, W.EachIs (fun u d => ∃ w, RelV w u ∧ R w d) us ds → ∃ xs, Vals xs us ∧ Paired R xs ds
  | _, _, .nil => ⟨[], .nil, .nil⟩
  | _, _, .cons ⟨w, a, b⟩ t => by
    obtain ⟨xs, h1, h2⟩ := each_vals t
    exact ⟨w :: xs, .cons a h1, .cons b h2⟩
theorem reads_each {h : Heap} : ∀ {us : List Value} {ds : List D} {as : List Addr}, ReadsAll h us ds as → W.EachIs (fun v b => ∃ as, Reads h v b as) us ds
  | _, _, _, .nil => .nil
  | _, _, _, .cons a b => .cons ⟨_, a⟩ (reads_each b)
theorem paired_len {α β : Type} {R : α → β → Prop} : ∀ {as : List α} {bs : List β}, Paired R as bs → as.length = bs.length
  | _, _, .nil => rfl
  | _, _, .cons _ t => by rw [List.length_cons, List.length_cons, paired_len t]
theorem Rps.paired {H : Hp} : ∀ {vs : List V} {ds : List D}, Rps H vs ds → Paired (Rp H) vs ds
  | [], [], _ => .nil
  | _ :: _, _ :: _, h => by
    cases h with
    | cons a b => exact .cons a (Rps.paired b)
  | [], _ :: _, h => by cases h
  | _ :: _, [], h => by cases h
theorem Rps.of_paired {H : Hp} : ∀ {vs : List V} {ds : List D}, Paired (Rp H) vs ds → Rps H vs ds
  | _, _, .nil => .nil
  | _, _, .cons a b => .cons a (Rps.of_paired b)
def rSrt (K : PySem.W.Frag) : List V → Hp → VK → Prop := fun vs H Q => ∃ (a : Addr) (xs : List V) (ds : List D) (R : V → D → Prop), vs = [V.ref a] ∧ (SqL K H a xs ∨ SqT K H a xs) ∧ DpAll K H xs ds ∧ srtOk ds = true ∧ xs.length ≤ sizeLine ∧ Paired R xs ds ∧
  ∀ (p : Addr) (out : List V), H p = none → Paired R out (srtD ds) → Q (.ref p) (upd H p (.lst out))
section
variable {X : Cx}
theorem cr_srt (hu : X.A.units + 64 < cLine) : CallR X (.builtin "sorted") (rSrt X.K) := by
  intro pins s σ H vs us Q I r h
  obtain ⟨a, xs, ds, R, rfl, hs, hK, hok, hl, hR, q⟩ := h
  rw [Vals.ref1 r]
  unfold srtOk at hok
  rw [Bool.and_eq_true, Bool.and_eq_true] at hok
  obtain ⟨⟨h1, h2⟩, h3⟩ := hok
  have h3 := of_decide_eq_true h3
  have core : ∀ (its : List Value) (o : Obj) (T : String) (n : Nat), T = "list" ∨ T = "tuple" → Vals xs its → s.heap.get? a = some o → o.cls = .type T → o.data = .seq its.toArray n → wpAny (model X.prog X.w) X.A (call (.builtin "sorted") [.ref a]) (EP X pins σ Q) X.xe s := by
    intro its o T n hT rv ho hc hd
    have hlen := rv.length
    obtain ⟨as, hr⟩ := L2.Dp.readsAll I _ _ its hK rv
    refine sorted_col (fun E' Q' hQ' => wpAny_collect_seq a hT ho hc hd (fun h' k => ?_) (by rw [List.size_toArray, ← hlen]; exact hl)) (by rw [← hlen]; exact hl) (vals_each rv hR) (reads_each hr) (allk_of h1) (sbl_of h2) (fun b hb => ?_) fun out n' h1 h' tk k1 k2 hp eo => ?_
    · have := hQ' h' s.toks k
      simpa using this
    · refine Nat.lt_of_le_of_lt ?_ hu
      have := depth_mem hb
      omega
    · obtain ⟨ws, rw1, rw2⟩ := each_vals eo
      have I1 : Inv X pins σ H { s with heap := h1, toks := tk } := I.kept k1
      have hz : ws.length ≤ sizeLine := by
        rw [paired_len rw2]
        rw [List.length_mergeSort, ← paired_len hR]
        exact hl
      exact ⟨.ref h1.objs.size, _, I1.laid (t' := tk) (o := .lst ws) k2 (Nat.le_refl _) ⟨hz, out, n', rw1, hp⟩, rfl, q _ ws (I1.hok.fresh (Nat.le_refl _)) (by rw [srtD_def]; exact rw2)⟩
  rcases hs with hs | hs
  · obtain ⟨its, rv, ⟨o, n, ho, hc, hd, hd2⟩, _⟩ := I.list hs
    exact core its o "list" _ (.inl rfl) rv ho hc hd2
  · obtain ⟨its, rv, ⟨o, ho, hc, n, hd⟩, _⟩ := I.tuple hs
    exact core its o "tuple" _ (.inr rfl) rv ho hc hd
def srtC (ds : List D) : Option Vl := match ds with
  | [.list xs] => if srtOk xs = true then some (.ow (srtD xs)) else none
  | [.tuple xs] => if srtOk xs = true then some (.ow (srtD xs)) else none
  | _ => none
theorem srtD_len (xs : List D) : (srtD xs).length = xs.length := by rw [srtD_def, List.length_mergeSort]
theorem srt_s {K : PySem.W.Frag} : CallS (rSrt K) srtC := by
  intro g Hs H τ ws ds v Q le tp r e q
  unfold srtC at e
  split at e
  · split at e
    · rename_i hc; cases e
      obtain ⟨w, rfl, r1⟩ := rdb1 r
      obtain ⟨p, vs, rfl, hp, hl, hr⟩ := r1.list le
      refine ⟨p, vs, _, Rp Hs, rfl, .inl (.of hp), Rps.dp _ _ (hr.to le), hc, hl, hr.paired, fun p' out hp' ho => ?_⟩
      exact q.lst le tp (by rw [paired_len ho, srtD_len, ← hr.len]; exact hl) (Rps.of_paired ho) p' hp'
    · cases e
  · split at e
    · rename_i hc; cases e
      obtain ⟨w, rfl, r1⟩ := rdb1 r
      obtain ⟨p, vs, rfl, hp, hl, hr⟩ := r1.tuple
      refine ⟨p, vs, _, Rp Hs, rfl, .inr (hp.mono le).sq, Rps.dp _ _ (hr.to le), hc, hl, hr.paired, fun p' out hp' ho => ?_⟩
      exact q.lst le tp (by rw [paired_len ho, srtD_len, ← hr.len]; exact hl) (Rps.of_paired ho) p' hp'
    · cases e
  · cases e
theorem jsorted {p pos : Pos} {e : Expr} {k : DA} (hm : X.mg "sorted" = none) (hu : X.A.units + 64 < cLine) (ha : JRs X [e] k) (hg : Gl X "sorted" := by rfl) (he : starEach [e] X.env = (false, eval e X.env) :: starEach [] X.env := by rfl) (hpl : (backTo pos (starEach [] X.env)).any (·.1) = false := by rfl) : JV X (.Call (.Name "sorted" p) [e] [] pos) (dCl srtC k) :=
  jcB (cr_srt hu) srt_s ha hg hm (by decide +kernel) (by decide) (by decide) he hpl
end
end Pv
namespace Pv
open PySem L2 PySem.Spec PyProof.Rows
variable [Tbl]
/-- how statements may change the heaps -/
structure Fw (g : G) (Hs Hs' H' : Hp) (τ' : Tp) : Prop where
  s : Same Hs Hs'
  le : Same Hs' H'
  tp : TpOk g Hs' H' τ'
theorem Up.fw {g : G} {Hs H Hs' H' : Hp} {τ' : Tp} (u : Up g Hs H Hs' H' τ') : Fw g Hs Hs' H' τ' := ⟨u.s, u.le, u.tp⟩
abbrev DI := Ev → Tp → Option (List D × Tp)
/-- J walks ds, as long as what was shared stays -/
def WkS (g : G) (Hs : Hp) (J : It) (ds : List D) : Prop := ∃ (Gd : Hp → Prop) (Y : Nat → Hp → V → Hp → Prop), Walk J ds.length Gd Y ∧ (∀ Hs2 H2 τ2, Fw g Hs Hs2 H2 τ2 → Gd H2) ∧
  ∀ Hs2 H2 τ2 i x H3 d, Fw g Hs Hs2 H2 τ2 → Y i H2 x H3 → ds[i]? = some d → ∃ Hs3, Up g Hs2 H2 Hs3 H3 τ2 ∧ Rp Hs3 x d
/-- .. as long as nothing that stood is changed -/
def WkE (g : G) (Hs H : Hp) (J : It) (ds : List D) : Prop := ∃ (Gd : Hp → Prop) (Y : Nat → Hp → V → Hp → Prop), Walk J ds.length Gd Y ∧ (∀ Hs2 H2 τ2, Up g Hs H Hs2 H2 τ2 → Gd H2) ∧
  ∀ Hs2 H2 τ2 i x H3 d, Up g Hs H Hs2 H2 τ2 → Y i H2 x H3 → ds[i]? = some d → ∃ Hs3, Up g Hs2 H2 Hs3 H3 τ2 ∧ Rp Hs3 x d
theorem WkS.e {g : G} {Hs H : Hp} {J : It} {ds : List D} (w : WkS g Hs J ds) : WkE g Hs H J ds := by
  obtain ⟨Gd, Y, w, h1, h2⟩ := w
  exact ⟨Gd, Y, w, fun Hs2 H2 τ2 u => h1 Hs2 H2 τ2 u.fw, fun Hs2 H2 τ2 i x H3 d u => h2 Hs2 H2 τ2 i x H3 d u.fw⟩
def tIS (f : DI) : TI := fun σ H R => ∃ g Hs env τ ds τ', Rel g Hs H σ env τ ∧ f env τ = some (ds, τ') ∧ ∀ J Hs' H', Up g Hs H Hs' H' τ' → ds.length ≤ sizeLine → WkS g Hs' J ds → R J H'
def tIE (f : DI) : TI := fun σ H R => ∃ g Hs env τ ds τ', Rel g Hs H σ env τ ∧ f env τ = some (ds, τ') ∧ ∀ J Hs' H', Up g Hs H Hs' H' τ' → ds.length ≤ sizeLine → WkE g Hs' H' J ds → R J H'
/-- walked by a for; by a comprehension -/
abbrev JI (X : Cx) (tg e : Expr) (f : DI) : Prop := PI X tg e (tIS f)
abbrev JC (X : Cx) (tg e : Expr) (f : DI) : Prop := PI X tg e (tIE f)
section
variable {X : Cx} {tg e : Expr}
theorem PIi {t t' : TI} (h : PI X tg e t) (i : ∀ σ H R, t' σ H R → t σ H R) : PI X tg e t' := ⟨fun pins s σ H R I k => h.run pins s σ H R I (i σ H R k)⟩
theorem PIor {t t' : TI} (h : PI X tg e t) (h' : PI X tg e t') : PI X tg e (fun σ H R => t σ H R ∨ t' σ H R) := ⟨fun pins s σ H R I k => k.elim (fun k => h.run pins s σ H R I k) fun k => h'.run pins s σ H R I k⟩
theorem jc_i {f : DI} (h : JI X tg e f) : JC X tg e f := PIi h fun σ H R ⟨g, Hs, env, τ, ds, τ', r, hf, q⟩ => ⟨g, Hs, env, τ, ds, τ', r, hf, fun J Hs' H' u hl w => q J Hs' H' u hl w.e⟩
/-! a list, a tuple, a text -/
def signs (z : Str) : List D := z.cps.toList.map fun c => .str ⟨#[c]⟩
def dIt (f : DD) : DI := fun env τ => bnd (f env τ) fun d τ' => match d with
  | .list ds => some (ds, τ')
  | .tuple ds => some (ds, τ')
  | .str z => if z.cps.size ≤ 16777216 then some (signs z, τ') else none
  | _ => none
theorem wk_list {K : PySem.W.Frag} {g : G} {Hs : Hp} {a : Addr} {xs : List V} {ds : List D} (hp : Hs a = some (.lst xs)) (hr : Rps Hs xs ds) : WkS g Hs (Itl K a) ds := by
  refine ⟨fun H => SqL K H a xs, YAt xs, by rw [← hr.len]; exact walk_list, fun Hs2 H2 τ2 f2 => .of (f2.le _ _ (f2.s _ _ hp)), fun Hs2 H2 τ2 i x H3 d f2 y hd => ?_⟩
  obtain ⟨rfl, hx⟩ := y
  obtain ⟨w2, e2, r2⟩ := hr.get hd
  rw [hx] at e2; cases e2
  exact ⟨Hs2, .refl f2.le f2.tp, r2.to f2.s⟩
theorem wk_bor {K : PySem.W.Frag} {g : G} {Hs H : Hp} {a : Addr} {xs : List V} {ds : List D} (hp : H a = some (.lst xs)) (nT : a ≠ g.aT) (hr : Rps Hs xs ds) : WkE g Hs H (Itl K a) ds := by
  refine ⟨fun H => SqL K H a xs, YAt xs, by rw [← hr.len]; exact walk_list, fun Hs2 H2 τ2 f2 => .of (f2.h _ _ hp nT rfl), fun Hs2 H2 τ2 i x H3 d f2 y hd => ?_⟩
  obtain ⟨rfl, hx⟩ := y
  obtain ⟨w2, e2, r2⟩ := hr.get hd
  rw [hx] at e2; cases e2
  exact ⟨Hs2, .refl f2.le f2.tp, r2.to f2.s⟩
theorem wk_tup {K : PySem.W.Frag} {g : G} {Hs : Hp} {a : Addr} {xs : List V} {ds : List D} (hp : TupAt Hs a xs ds) (hr : Rps Hs xs ds) : WkS g Hs (Itt K a) ds := by
  refine ⟨fun H => SqT K H a xs, YAt xs, by rw [← hr.len]; exact walk_tup, fun Hs2 H2 τ2 f2 => ((hp.mono f2.s).mono f2.le).sq, fun Hs2 H2 τ2 i x H3 d f2 y hd => ?_⟩
  obtain ⟨rfl, hx⟩ := y
  obtain ⟨w2, e2, r2⟩ := hr.get hd
  rw [hx] at e2; cases e2
  exact ⟨Hs2, .refl f2.le f2.tp, r2.to f2.s⟩
theorem signs_len (z : Str) : (signs z).length = z.cps.size := by unfold signs; rw [List.length_map, Array.length_toList]
theorem wk_str {g : G} {Hs : Hp} {z : Str} : WkS g Hs (Its z) (signs z) := by
  refine ⟨fun _ => True, fun i H v H' => H' = H ∧ ∃ c, z.cps[i]? = some c ∧ v = .str ⟨#[c]⟩, by rw [signs_len]; exact walk_str, fun _ _ _ _ => trivial, fun Hs2 H2 τ2 i x H3 d f2 y hd => ?_⟩
  obtain ⟨rfl, c, hc, rfl⟩ := y
  refine ⟨Hs2, .refl f2.le f2.tp, ?_⟩
  unfold signs at hd
  rw [List.getElem?_map, Array.getElem?_toList, hc] at hd
  cases hd
  exact .str _
theorem ji_seq {f : DD} (h : JD X e f) : JI X tg e (dIt f) := PIi (PIor (pi_list h) (PIor (pi_tup h) (pi_str h))) fun σ H R ⟨g, Hs, env, τ, ds, τ', r, hf, q⟩ => by
  obtain ⟨d, τ1, h1, h2⟩ := bnd_eq hf
  split at h2
  · cases h2
    refine .inl ⟨g, Hs, env, τ, _, τ', r, h1, fun w Hs1 H1 u1 r1 => ?_⟩
    cases r1 with
    | lst hp hl hr => exact ⟨_, rfl, ⟨_, .of (u1.le _ _ hp)⟩, q _ Hs1 H1 u1 (by rw [← hr.len]; exact hl) (wk_list hp hr)⟩
  · cases h2
    refine .inr (.inl ⟨g, Hs, env, τ, _, τ', r, h1, fun w Hs1 H1 u1 r1 => ?_⟩)
    cases r1 with
    | tup hp hl hr => exact ⟨_, rfl, ⟨_, (hp.mono u1.le).sq⟩, q _ Hs1 H1 u1 (by rw [← hr.len]; exact hl) (wk_tup hp hr)⟩
  · split at h2
    · rename_i z hz
      cases h2
      refine .inr (.inr ⟨g, Hs, env, τ, _, τ', r, h1, fun w Hs1 H1 u1 r1 => ?_⟩)
      cases r1
      exact ⟨z, rfl, q _ Hs1 H1 u1 (by rw [signs_len, line_eq]; exact hz) wk_str⟩
    · cases h2
  · cases h2
/-- a list that may be one's own: by a comprehension -/
theorem jc_bor {f : DD} (h : JR X e f) : JC X tg e (dIt f) := PIi (PIor (pi_list h) (PIor (pi_tup h) (pi_str h))) fun σ H R ⟨g, Hs, env, τ, ds, τ', r, hf, q⟩ => by
  obtain ⟨d, τ1, h1, h2⟩ := bnd_eq hf
  split at h2
  · cases h2
    refine .inl ⟨g, Hs, env, τ, _, τ', r, h1, fun w Hs1 H1 u1 r1 => ?_⟩
    rcases r1 with r1 | ⟨ds', p, xs, e1, rfl, nT, hp, hl, hr⟩
    · cases r1 with
      | lst hp hl hr => exact ⟨_, rfl, ⟨_, .of (u1.le _ _ hp)⟩, q _ Hs1 H1 u1 (by rw [← hr.len]; exact hl) (wk_list hp hr).e⟩
    · cases e1
      exact ⟨p, rfl, ⟨xs, .of hp⟩, q _ Hs1 H1 u1 (by rw [← hr.len]; exact hl) (wk_bor hp nT hr)⟩
  · cases h2
    refine .inr (.inl ⟨g, Hs, env, τ, _, τ', r, h1, fun w Hs1 H1 u1 r1 => ?_⟩)
    obtain ⟨a, xs, rfl, hp, hl, hr⟩ := r1.tuple
    exact ⟨a, rfl, ⟨xs, (hp.mono u1.le).sq⟩, q _ Hs1 H1 u1 (by rw [← hr.len]; exact hl) (wk_tup hp hr).e⟩
  · split at h2
    · rename_i z hz
      cases h2
      refine .inr (.inr ⟨g, Hs, env, τ, _, τ', r, h1, fun w Hs1 H1 u1 r1 => ?_⟩)
      have := r1.str
      subst this
      exact ⟨z, rfl, q _ Hs1 H1 u1 (by rw [signs_len, line_eq]; exact hz) wk_str.e⟩
    · cases h2
  · cases h2
/-! ranges -/
def rngL (lo : Int) (n : Nat) : List D := (List.range n).map fun (i : Nat) => PyData.int (lo + (i : Int))
theorem rngL_len (lo : Int) (n : Nat) : (rngL lo n).length = n := by unfold rngL; rw [List.length_map, List.length_range]
theorem rngL_get {lo : Int} {n i : Nat} {d : D} (h : (rngL lo n)[i]? = some d) : d = .int (lo + (i : Int)) := by
  unfold rngL at h
  rw [List.getElem?_map] at h
  cases q : (List.range n)[i]? with
  | none => rw [q] at h; cases h
  | some m =>
    rw [q] at h
    have : m = i := by
      obtain ⟨h1, h2⟩ := List.getElem?_eq_some_iff.mp q
      rw [List.getElem_range] at h2
      exact h2.symm
    subst this
    cases h
    rfl
def dRng1 (k : DA) : DI := fun env τ => bnd (k env τ) fun ds τ' => match ds with
  | [.int j] => if j ≤ 16777216 ∧ -16777216 ≤ j then some (rngL 0 j.toNat, τ') else none
  | _ => none
def dRng2 (k : DA) : DI := fun env τ => bnd (k env τ) fun ds τ' => match ds with
  | [.int i, .int j] => if j ≤ 16777216 ∧ -16777216 ≤ j ∧ i ≤ 16777216 ∧ -16777216 ≤ i ∧ j - i ≤ 16777216 then some (rngL i (j - i).toNat, τ') else none
  | _ => none
theorem wk_rng {g : G} {Hs : Hp} (lo : Int) (n : Nat) : WkS g Hs (Itr lo n) (rngL lo n) := by
  refine ⟨fun _ => True, YFn fun i => .int (lo + i), by rw [rngL_len]; exact walk_range, fun _ _ _ _ => trivial, fun Hs2 H2 τ2 i x H3 d f2 y hd => ?_⟩
  obtain ⟨rfl, rfl⟩ := y
  rw [rngL_get hd]
  exact ⟨Hs2, .refl f2.le f2.tp, .int _⟩
theorem ji_range1 {a : Expr} {k : DA} {p pos : Pos} (hm : X.mg "range" = none) (ha : JRs X [a] k) (hg : Gl X "range" := by rfl) (hs : starEach [a] X.env = [(false, eval a X.env)] := by rfl) : JI X tg (.Call (.Name "range" p) [a] [] pos) (dRng1 k) :=
  PIi (pi_range1 hg hm ha hs) fun σ H R ⟨g, Hs, env, τ, ds, τ', r, hf, q⟩ => by
    obtain ⟨d, τ1, h1, h2⟩ := bnd_eq hf
    refine ⟨g, Hs, env, τ, d, τ1, r, h1, fun ws Hs1 H1 u1 r1 => ?_⟩
    split at h2
    · split at h2
      · rename_i hc
        cases h2
        obtain ⟨w, rfl, r2⟩ := rdb1 r1
        have := r2.int
        subst this
        refine ⟨_, rfl, by omega, by omega, q _ Hs1 H1 u1 (by rw [rngL_len, line_eq]; omega) (wk_rng _ _)⟩
      · cases h2
    · cases h2
theorem ji_range2 {a b : Expr} {k : DA} {p pos : Pos} (hm : X.mg "range" = none) (ha : JRs X [a, b] k) (hg : Gl X "range" := by rfl) (hs : starEach [a, b] X.env = [(false, eval a X.env), (false, eval b X.env)] := by rfl) (hs2 : starEach [b] X.env = [(false, eval b X.env)] := by rfl) : JI X tg (.Call (.Name "range" p) [a, b] [] pos) (dRng2 k) :=
  PIi (pi_range2 hg hm ha hs hs2) fun σ H R ⟨g, Hs, env, τ, ds, τ', r, hf, q⟩ => by
    obtain ⟨d, τ1, h1, h2⟩ := bnd_eq hf
    refine ⟨g, Hs, env, τ, d, τ1, r, h1, fun ws Hs1 H1 u1 r1 => ?_⟩
    split at h2
    · split at h2
      · rename_i hc
        cases h2
        obtain ⟨w, v, rfl, r2, r3⟩ := rdb2 r1
        have := r2.int
        subst this
        have := r3.int
        subst this
        refine ⟨_, _, rfl, ⟨by omega, by omega, by omega, by omega⟩, q _ Hs1 H1 u1 (by rw [rngL_len, line_eq]; omega) (wk_rng _ _)⟩
      · cases h2
    · cases h2
/-! zip of two lists -/
def zipD : List D → List D → List D
  | x :: xs, y :: ys => .tuple [x, y] :: zipD xs ys
  | _, _ => []
theorem zipD_len : ∀ xs ys : List D, (zipD xs ys).length = min xs.length ys.length
  | [], _ => by simp [zipD]
  | _ :: _, [] => by simp [zipD]
  | x :: xs, y :: ys => by
    show (zipD xs ys).length + 1 = min (xs.length + 1) (ys.length + 1)
    rw [zipD_len xs ys]; omega
theorem zipD_get : ∀ {xs ys : List D} {i : Nat} {d : D}, (zipD xs ys)[i]? = some d → ∃ x y, xs[i]? = some x ∧ ys[i]? = some y ∧ d = .tuple [x, y]
  | [], _, _, _, h => by simp [zipD] at h
  | _ :: _, [], _, _, h => by simp [zipD] at h
  | x :: xs, y :: ys, 0, d, h => by
    have h : some (PyData.tuple [x, y]) = some d := h
    cases h
    exact ⟨x, y, rfl, rfl, rfl⟩
  | x :: xs, y :: ys, i + 1, d, h => by
    have h : (zipD xs ys)[i]? = some d := h
    obtain ⟨a, b, h1, h2, h3⟩ := zipD_get h
    exact ⟨a, b, by simpa using h1, by simpa using h2, h3⟩
/-- a walk that gives new pairs -/
theorem new_pair {g : G} {Hs2 H2 : Hp} {τ2 : Tp} {T : Addr} {x y : V} {d e : D} (le : Same Hs2 H2) (tp : TpOk g Hs2 H2 τ2) (hT : H2 T = none) (rx : Rp Hs2 x d) (ry : Rp Hs2 y e) :
    ∀ o : Obj, o.dict = none → ∃ Hs3, Up g Hs2 H2 Hs3 (upd H2 T (tupO (cmL [d, e]) o [x, y])) τ2 ∧ Rp Hs3 (.ref T) (.tuple [d, e]) := fun o ho => by
  have u := Up.refl le tp
  have n := u.freeS hT
  exact ⟨_, u.new hT, .tup ⟨o, ho, upd_same⟩ (by show 2 ≤ sizeLine; decide) (.cons (rx.to (same_upd n)) (.cons (ry.to (same_upd n)) .nil))⟩
end
/-! ### targets -/
abbrev DG := D → Ev → Option Ev
/-- only the slots is changed -/
structure Touch (is : List Nat) (σ σ' : Sl) : Prop where
  l : σ'.length = σ.length
  o : ∀ j : Nat, j ∉ is → σ'[j]? = σ[j]?
theorem wipe_get : ∀ (vs : List Nat) (σ : Sl) (j : Nat), (L2.wipe σ vs)[j]? = if j ∈ vs ∧ j < σ.length then some none else σ[j]? := by
  intro vs
  induction vs with
  | nil => intro σ j; simp [L2.wipe]
  | cons v vs ih =>
    intro σ j
    unfold L2.wipe
    by_cases h : v = j
    · subst h
      by_cases hl : v < σ.length
      · rw [List.getElem?_set_self (by rw [wipe_length]; exact hl), if_pos ⟨List.mem_cons_self, hl⟩]
      · rw [if_neg (fun z => hl z.2), List.getElem?_eq_none (by rw [List.length_set, wipe_length]; omega), List.getElem?_eq_none (by omega)]
    · rw [List.getElem?_set_ne h, ih]
      by_cases hj : j ∈ vs ∧ j < σ.length
      · rw [if_pos hj, if_pos ⟨List.mem_cons_of_mem _ hj.1, hj.2⟩]
      · rw [if_neg hj, if_neg]
        rintro ⟨z1, z2⟩
        rcases List.mem_cons.mp z1 with e | z1
        · exact h e.symm
        · exact hj ⟨z1, z2⟩
theorem wipe_wipe (vs : List Nat) (σ : Sl) : L2.wipe (L2.wipe σ vs) vs = L2.wipe σ vs := by
  apply List.ext_getElem?
  intro j
  rw [wipe_get, wipe_length, wipe_get]
  by_cases hj : j ∈ vs ∧ j < σ.length
  · rw [if_pos hj, if_pos hj]
  · rw [if_neg hj]
theorem Touch.wipe {is : List Nat} {σ σ' : Sl} (t : Touch is σ σ') : ∀ {vs : List Nat}, (∀ i ∈ is, i ∈ vs) → wipe σ' vs = wipe σ vs := by
  intro vs hv
  apply List.ext_getElem?
  intro j
  rw [wipe_get, wipe_get, t.l]
  by_cases hj : j ∈ vs ∧ j < σ.length
  · rw [if_pos hj, if_pos hj]
  · rw [if_neg hj, if_neg hj]
    by_cases hl : j < σ.length
    · exact t.o j fun z => hj ⟨hv j z, hl⟩
    · rw [List.getElem?_eq_none (by rw [t.l]; omega), List.getElem?_eq_none (by omega)]
theorem Touch.refl {σ : Sl} : Touch [] σ σ := ⟨rfl, fun _ _ => rfl⟩
theorem Touch.set {is : List Nat} {σ σ' : Sl} {i : Nat} {v : Option V} (t : Touch is (σ.set i v) σ') : Touch (i :: is) σ σ' :=
  ⟨by rw [t.l, List.length_set], fun j hj => by
    rw [t.o j (fun z => hj (List.mem_cons_of_mem _ z)), List.getElem?_set_ne (fun e => hj (by rw [e]; exact List.mem_cons_self))]⟩
section
variable {g : G} {Hs H : Hp} {σ : Sl} {env : Ev} {τ : Tp}
theorem Rel.setv (r : Rel g Hs H σ env τ) (i : Nat) {w : V} {v : Vl} (rv : RepV g.aT Hs H w v) (h0 : v.own = true → ∀ p, w = .ref p → g.H0 p = none ∧ ∀ (j : Nat) (u : Vl), env[j]? = some (some u) → u.own = true → σ[j]? ≠ some (some (.ref p))) :
    Rel g Hs H (σ.set i (some w)) (env.set i (some v)) τ where
  le := r.le
  tp := r.tp
  ls := r.ls
  bs := r.bs
  bk := r.bk
  fr := r.fr
  sl := fun j u e => by
    by_cases hj : i = j
    · subst hj
      by_cases hl : i < env.length
      · rw [List.getElem?_set_self hl] at e
        cases e
        exact ⟨w, List.getElem?_set_self (by rw [← r.ln]; exact hl), rv⟩
      · rw [List.getElem?_eq_none (by rw [List.length_set]; omega)] at e
        cases e
    · rw [List.getElem?_set_ne hj] at e ⊢
      exact r.sl j u e
  ow := fun j u p e ho ep => by
    by_cases hj : i = j
    · subst hj
      by_cases hl : i < env.length
      · rw [List.getElem?_set_self hl] at e
        rw [List.getElem?_set_self (by rw [← r.ln]; exact hl)] at ep
        cases e; cases ep
        exact (h0 ho p rfl).1
      · rw [List.getElem?_eq_none (by rw [List.length_set]; omega)] at e
        cases e
    · rw [List.getElem?_set_ne hj] at e ep
      exact r.ow j u p e ho ep
  ap := fun j k u u' p e e' ho ho' ep ep' => by
    have out : ∀ (j : Nat) (u : Vl), ¬ i < env.length → (env.set i (some v))[j]? = some (some u) → i ≠ j := fun j u hl e z => by
      subst z
      rw [List.getElem?_eq_none (by rw [List.length_set]; omega)] at e
      cases e
    by_cases hl : i < env.length
    · by_cases hj : i = j
      · by_cases hk : i = k
        · exact hj.symm.trans hk
        · subst hj
          rw [List.getElem?_set_self hl] at e
          rw [List.getElem?_set_self (by rw [← r.ln]; exact hl)] at ep
          rw [List.getElem?_set_ne hk] at e' ep'
          cases e; cases ep
          exact absurd ep' ((h0 ho p rfl).2 k u' e' ho')
      · by_cases hk : i = k
        · subst hk
          rw [List.getElem?_set_self hl] at e'
          rw [List.getElem?_set_self (by rw [← r.ln]; exact hl)] at ep'
          rw [List.getElem?_set_ne hj] at e ep
          cases e'; cases ep'
          exact absurd ep ((h0 ho' p rfl).2 j u e ho)
        · rw [List.getElem?_set_ne hj] at e ep
          rw [List.getElem?_set_ne hk] at e' ep'
          exact r.ap j k u u' p e e' ho ho' ep ep'
    · have hj := out j u hl e
      have hk := out k u' hl e'
      rw [List.getElem?_set_ne hj] at e ep
      rw [List.getElem?_set_ne hk] at e' ep'
      exact r.ap j k u u' p e e' ho ho' ep ep'
  ln := by rw [List.length_set, List.length_set, r.ln]
theorem Rel.set (r : Rel g Hs H σ env τ) (i : Nat) {w : V} {d : D} (rv : Rp Hs w d) : Rel g Hs H (σ.set i (some w)) (env.set i (some (.sh d))) τ := r.setv i (v := .sh d) rv fun z => by cases z
/-- forgetting a slot -/
theorem Rel.drop (r : Rel g Hs H σ env τ) {σ' : Sl} {env' : Ev} (hl : env'.length = σ'.length) (h : ∀ (i : Nat) v, env'[i]? = some (some v) → env[i]? = some (some v) ∧ σ'[i]? = σ[i]?) : Rel g Hs H σ' env' τ where
  le := r.le
  tp := r.tp
  ls := r.ls
  bs := r.bs
  bk := r.bk
  fr := r.fr
  sl := fun i v e => by
    obtain ⟨h1, h2⟩ := h i v e
    rw [h2]
    exact r.sl i v h1
  ow := fun i v p e ho ep => by
    obtain ⟨h1, h2⟩ := h i v e
    rw [h2] at ep
    exact r.ow i v p h1 ho ep
  ap := fun i j v v' p e e' ho ho' ep ep' => by
    obtain ⟨h1, h2⟩ := h i v e
    obtain ⟨h3, h4⟩ := h j v' e'
    rw [h2] at ep
    rw [h4] at ep'
    exact r.ap i j v v' p h1 h3 ho ho' ep ep'
  ln := hl
def wipeE (env : Ev) : List Nat → Ev
  | [] => env
  | v :: vs => (wipeE env vs).set v none
theorem wipeE_length (env : Ev) : ∀ vs : List Nat, (wipeE env vs).length = env.length
  | [] => rfl
  | v :: vs => by unfold wipeE; rw [List.length_set, wipeE_length env vs]
theorem wipeE_some {i : Nat} {x : Vl} : ∀ {vs : List Nat}, (wipeE env vs)[i]? = some (some x) → env[i]? = some (some x) ∧ i ∉ vs
  | [], h => ⟨h, by simp⟩
  | v :: vs, h => by
    unfold wipeE at h
    by_cases hi : v = i
    · subst hi
      by_cases hv : v < (wipeE env vs).length
      · rw [List.getElem?_set_self hv] at h; cases h
      · rw [List.getElem?_eq_none (by simpa using hv)] at h; cases h
    · rw [List.getElem?_set_ne hi] at h
      obtain ⟨h1, h2⟩ := wipeE_some h
      exact ⟨h1, by simp only [List.mem_cons, not_or]; exact ⟨fun e => hi e.symm, h2⟩⟩
theorem wipe_out {i : Nat} : ∀ {vs : List Nat}, i ∉ vs → (wipe σ vs)[i]? = σ[i]?
  | [], _ => rfl
  | v :: vs, h => by
    unfold wipe
    rw [List.getElem?_set_ne (fun e => h (by rw [e]; exact List.mem_cons_self)), wipe_out (fun z => h (List.mem_cons_of_mem _ z))]
theorem Rel.wipe (r : Rel g Hs H σ env τ) (vs : List Nat) : Rel g Hs H (wipe σ vs) (wipeE env vs) τ :=
  r.drop (by rw [wipeE_length, wipe_length, r.ln]) fun i v e => by
    obtain ⟨h1, h2⟩ := wipeE_some e
    exact ⟨h1, wipe_out h2⟩
end
/-- the target takes a shared datum; is: the slots that it sets -/
def tG (is : List Nat) (f : DG) : TG := fun v σ H Q => ∃ g Hs env τ d env', Rel g Hs H σ env τ ∧ Rp Hs v d ∧ f d env = some env' ∧ ∀ σ', Rel g Hs H σ' env' τ → Touch is σ σ' → Q σ' H
def tGs (is : List Nat) : TGs := fun vs σ H Q => ∃ g Hs env τ ds env', Rel g Hs H σ env τ ∧ Rps Hs vs ds ∧ ds.length = is.length ∧ env' = (is.zip ds).foldl (fun e p => e.set p.1 (some (.sh p.2))) env ∧ ∀ σ', Rel g Hs H σ' env' τ → Touch is σ σ' → Q σ' H
abbrev JG (X : Cx) (tg : Expr) (is : List Nat) (f : DG) : Prop := PG X tg (tG is f)
abbrev JGs (X : Cx) (tgs : List Expr) (is : List Nat) : Prop := PGs X tgs (tGs is)
def gN (i : Nat) : DG := fun d env => some (env.set i (some (.sh d)))
def gT (is : List Nat) : DG := fun d env => match d with
  | .tuple ds => if ds.length = is.length then some ((is.zip ds).foldl (fun e p => e.set p.1 (some (.sh p.2))) env) else none
  | _ => none
section
variable {X : Cx} {pos : Pos}
theorem PGi {tg : Expr} {t t' : TG} (h : PG X tg t) (i : ∀ v σ H Q, t' v σ H Q → t v σ H Q) : PG X tg t' := ⟨fun pins s σ H v u Q I r k => h.run pins s σ H v u Q I r (i v σ H Q k)⟩
theorem PGsi {tg : List Expr} {t t' : TGs} (h : PGs X tg t) (i : ∀ v σ H Q, t' v σ H Q → t v σ H Q) : PGs X tg t' := ⟨fun pins s σ H v u Q I r k => h.run pins s σ H v u Q I r (i v σ H Q k)⟩
theorem jg_name (i : Nat) {x : Str} (hN : X.N.Nodup) (hi : X.N[i]? = some x := by rfl) (hx : Loc X.env.scope x := by first | exact Or.inl rfl | exact Or.inr rfl) (hf : X.fn x = true ∨ X.env.scope.names.lookup x = some .local := by first | exact .inl rfl | exact .inr rfl) : JG X (.Name x pos) [i] (gN i) :=
  PGi (pg_name hN hi hx hf) fun v σ H Q ⟨g, Hs, env, τ, d, env', r, rp, hf, q⟩ => by
    cases hf
    exact q _ (r.set i rp) (Touch.set Touch.refl)
theorem jgs_nil : JGs X [] [] := PGsi pgs_nil fun v σ H Q ⟨g, Hs, env, τ, ds, env', r, rp, hl, he, q⟩ => by
  have : ds = [] := List.eq_nil_of_length_eq_zero hl
  subst this
  subst he
  cases rp
  exact ⟨rfl, q σ r Touch.refl⟩
theorem jgs_cons {i : Nat} {is : List Nat} {e : Expr} {es : List Expr} (h1 : JG X e [i] (gN i)) (h2 : JGs X es is) (hs : (assignEach (e :: es) X.env).map (·.2) = assign e X.env :: (assignEach es X.env).map (·.2) := by rfl) : JGs X (e :: es) (i :: is) :=
  PGsi (pgs_cons h1 h2 hs) fun vs σ H Q ⟨g, Hs, env, τ, ds, env', r, rp, hl, he, q⟩ => by
    cases rp with
    | nil => cases hl
    | @cons v vs d ds r1 r2 =>
      refine ⟨v, vs, rfl, g, Hs, env, τ, d, _, r, r1, rfl, fun σ1 r3 t1 => ?_⟩
      refine ⟨g, Hs, _, τ, ds, _, r3, r2, by simpa using hl, rfl, fun σ2 r4 t2 => ?_⟩
      subst he
      refine q σ2 r4 ⟨by rw [t2.l, t1.l], fun j hj => ?_⟩
      rw [t2.o j (fun z => hj (List.mem_cons_of_mem _ z)), t1.o j (fun z => hj (by simp at z; rw [z]; exact List.mem_cons_self))]
theorem jg_tup {es : List Expr} {k : Nat} {is : List Nat} (h : JGs X es is) (hc : X.calm = true := by rfl) (hn : (assignEach es X.env).length = is.length := by rfl) (hst : (assignEach es X.env).findIdx? (·.1) = none := by rfl) : JG X (.Tuple es k pos) is (gT is) :=
  PGi (pg_tup hc h hn hst) fun v σ H Q ⟨g, Hs, env, τ, d, env', r, rp, hf, q⟩ => by
    unfold gT at hf
    split at hf
    · split at hf
      · rename_i hl
        cases hf
        cases rp with
        | tup hp hz hr =>
          exact ⟨_, _, rfl, (hp.mono r.le).sq, by rw [hr.len]; exact hl, g, Hs, env, τ, _, _, r, hr, hl, rfl, q⟩
      · cases hf
    · cases hf
end
/-! ### list comprehensions -/
abbrev JTs (X : Cx) (ifs : List Expr) (f : DT) : Prop := PTs X ifs (tB' f)
def yes : DT := fun _ τ => some (true, τ)
theorem PTsi {X : Cx} {ifs : List Expr} {t t' : TT} (h : PTs X ifs t) (i : ∀ σ H Q, t' σ H Q → t σ H Q) : PTs X ifs t' := ⟨fun pins s σ H Q I k => h.run pins s σ H Q I (i σ H Q k)⟩
theorem jts_nil {X : Cx} : JTs X [] yes := PTsi pts_nil fun σ H Q ⟨g, Hs, env, τ, b, τ', r, hf, q⟩ => by
  cases hf
  exact q Hs H (.refl r.le r.tp)
theorem jts_one {X : Cx} {c : Expr} {f : DT} (h : JT X c f) : JTs X [c] f := pts_one h
def compL (b : DG) (c : DT) (e : DD) : List D → Ev → Tp → Option (List D × Tp)
  | [], _, τ => some ([], τ)
  | x :: xs, env, τ => match b x env with
    | none => none
    | some env1 => bnd (c env1 τ) fun k τ1 => if k = true then bnd (e env1 τ1) fun y τ2 => bnd (compL b c e xs env τ2) fun ys τ3 => some (y :: ys, τ3) else compL b c e xs env τ1
def dComp (vs : List Nat) (it : DI) (b : DG) (c : DT) (e : DD) : DE := fun env τ => bnd (it env τ) fun ds τ1 => bnd (compL b c e ds (wipeE env vs) τ1) fun ys τ2 => some (.ow ys, τ2)
/-- an untracked-as-shared object of the comprehension's own is written -/
theorem Up.put {g : G} {Hs H Hs1 H1 : Hp} {τ1 : Tp} {p : Addr} {o : HO} (u : Up g Hs H Hs1 H1 τ1) (h0 : H p = none) (hn : Hs1 p = none) (nT : p ≠ g.aT) {o1 : HO} (hp : H1 p = some o1) (hm : mu o1 = true) : Up g Hs H Hs1 (upd H1 p o) τ1 where
  s := u.s
  h := fun b q e n m => by rw [upd_ne (ne_of_none e h0)]; exact u.h b q e n m
  k := fun b h => u.k b (upd_none h)
  f := u.f
  le := fun b q e => by rw [upd_ne (ne_of_none e hn)]; exact u.le b q e
  tp := ⟨tabs_ne u.tp.tb hp hm _, u.tp.tn, by rw [upd_ne nT.symm]; exact u.tp.h, u.tp.n, u.tp.s, u.tp.l⟩
theorem lc_run {vs is : List Nat} {it : DI} {b : DG} {c : DT} {e : DD} (his : ∀ i ∈ is, i ∈ vs) : ∀ σ H Q, tV (dComp vs it b c e) σ H Q → tLc (tIE it) (tG is b) (tB' c) (tD e) vs σ H Q := fun σ H Q ⟨g, Hs, env, τ, v, τ', r, hf, q⟩ => by
  obtain ⟨ds, τ1, h1, h2⟩ := bnd_eq hf
  obtain ⟨res, τ2, h3, h4⟩ := bnd_eq h2
  cases h4
  refine ⟨g, Hs, env, τ, ds, τ1, r, h1, fun J Hs1 H1 u1 hlen wk A hA => ?_⟩
  obtain ⟨Gd, Y, w, wG, wY⟩ := wk
  have nT := u1.neT hA
  have hA1 := u1.freeS hA
  have r1 := (r.up u1).wipe vs
  have uz : Up g Hs1 H1 Hs1 H1 τ1 := .refl u1.le u1.tp
  refine lc_it w (fun i H' => ∃ Hs' acc ys τi rest, Up g Hs1 H1 Hs' H' τi ∧ H' A = some (.lst acc) ∧ Hs' A = none ∧ Rps Hs' acc ys ∧ acc.length ≤ i ∧ compL b c e (ds.drop i) (wipeE env vs) τi = some (rest, τ') ∧ ys ++ rest = res)
    ⟨Hs1, [], [], τ1, res, uz.mk1 hA, upd_same, hA1, .nil, Nat.le_refl _, by rw [List.drop_zero]; exact h3, rfl⟩ (fun i H' _ ⟨Hs', acc, ys, τi, rest, u2, _⟩ => wG Hs' H' τi u2) (fun i x H2 H3 hi ⟨Hs2, acc, ys, τi, rest, u2, hacc, hA2, hr, hl, hc, hres⟩ hy => ?_) fun H' ⟨Hs2, acc, ys, τi, rest, u2, hacc, hA2, hr, hl, hc, hres⟩ => ?_
  · have hd : ds[i]? = some (ds[i]'hi) := List.getElem?_eq_getElem hi
    generalize ds[i]'hi = d at hd
    obtain ⟨Hs3, u3, rx⟩ := wY Hs2 H2 τi i x H3 d u2 hy hd
    have hacc3 := u3.h _ _ hacc nT rfl
    have hA3 : Hs3 A = none := by
      cases z : Hs3 A with
      | none => rfl
      | some o => rw [u3.f A o z hA2] at hacc; cases hacc
    rw [List.drop_eq_getElem_cons hi, show ds[i] = d from Option.some.inj ((List.getElem?_eq_getElem hi).symm.trans hd)] at hc
    have hc' : (match b d (wipeE env vs) with
      | none => none
      | some env1 => bnd (c env1 τi) fun k τ1 => if k = true then bnd (e env1 τ1) fun y τ2 => bnd (compL b c e (ds.drop (i + 1)) (wipeE env vs) τ2) fun ys τ3 => some (y :: ys, τ3) else compL b c e (ds.drop (i + 1)) (wipeE env vs) τ1) = some (rest, τ') := hc
    cases hb : b d (wipeE env vs) with
    | none => rw [hb] at hc'; cases hc'
    | some env1 =>
      rw [hb] at hc'
      obtain ⟨k, τ4, h5, h6⟩ := bnd_eq hc'
      have r3 : Rel g Hs3 H3 (wipe σ vs) (wipeE env vs) τi := (r1.up u2).up u3
      refine ⟨g, Hs3, wipeE env vs, τi, d, env1, r3, rx, hb, fun σ2 r4 t => ⟨?_, g, Hs3, env1, τi, k, τ4, r4, h5, fun Hs4 H4 u4 => ?_⟩⟩
      · rw [t.wipe his, wipe_wipe]
      · have hacc4 := u4.h _ _ hacc3 nT rfl
        have hA4 : Hs4 A = none := by
          cases z : Hs4 A with
          | none => rfl
          | some o => rw [u4.f A o z hA3] at hacc3; cases hacc3
        cases k with
        | false =>
          have h6 : compL b c e (ds.drop (i + 1)) (wipeE env vs) τ4 = some (rest, τ') := h6
          exact iteF ⟨Hs4, acc, ys, τ4, rest, (u2.trans u3).trans u4, hacc4, hA4, (hr.to u3.s).to u4.s, Nat.le_succ_of_le hl, h6, hres⟩
        | true =>
          obtain ⟨y, τ5, h7, h8⟩ := bnd_eq h6
          obtain ⟨ys', τ6, h9, h10⟩ := bnd_eq h8
          cases h10
          refine iteT ⟨g, Hs4, env1, τ4, y, τ5, r4.up u4, h7, fun wy Hs5 H5 u5 ry => ?_⟩
          have hacc5 := u5.h _ _ hacc4 nT rfl
          have hA5 : Hs5 A = none := by
            cases z : Hs5 A with
            | none => rfl
            | some o => rw [u5.f A o z hA4] at hacc4; cases hacc4
          have ut := ((u2.trans u3).trans u4).trans u5
          refine ⟨acc, hacc5, by omega, Hs5, acc ++ [wy], ys ++ [y], τ5, ys', ut.put hA hA5 nT hacc5 rfl, upd_same, hA5, (((hr.to u3.s).to u4.s).to u5.s).snoc ry, by rw [List.length_append]; show acc.length + 1 ≤ i + 1; omega, h9, by rw [List.append_assoc]; exact hres⟩
  · rw [List.drop_length] at hc
    cases hc
    rw [List.append_nil] at hres
    subst hres
    exact q _ Hs2 H' (u1.trans u2) ⟨A, acc, rfl, nT, hA2, hacc, by omega, hr⟩ fun _ p ep => by cases ep; exact u1.old hA
section
variable {X : Cx} {pos : Pos} {elt tg iter : Expr} {ifs : List Expr} {scope : Scope} {own : List (Str × Nat)} {is : List Nat} {it : DI} {b : DG} {c : DT} {e : DD}
theorem jcomp (hN : X.N.Nodup) (hi : JC X tg iter it) (ok : BlkOk X.N X.env.scope scope own)
    (hg : ∀ (s : Shared) (H : Hp) (C : Addr) (cl : List (Str × Addr)) (fp : List Addr), JG (X.blk s H scope (compEnvC scope cl C X.env) fp) tg is b)
    (ht : ∀ (s : Shared) (H : Hp) (C : Addr) (cl : List (Str × Addr)) (fp : List Addr), JTs (X.blk s H scope (compEnvC scope cl C X.env) fp) ifs c)
    (he : ∀ (s : Shared) (H : Hp) (C : Addr) (cl : List (Str × Addr)) (fp : List Addr), JD (X.blk s H scope (compEnvC scope cl C X.env) fp) elt e)
    (his : ∀ i ∈ is, i ∈ own.map (·.2) := by decide) (hc : X.calm = true := by rfl) (hs : ∀ x, foldedSetIterable iter X.env x = pure x := by intro _; rfl) : JV X (.ListComp elt [⟨tg, iter, ifs, 0⟩] scope pos) (dComp (own.map (·.2)) it b c e) :=
  PEi (pe_lc hc hN hi ok hg ht he hs) (lc_run his)
end
end Pv
namespace Pv
open PySem L2 PySem.Spec PyProof.Rows
variable [Tbl]
inductive Out where
  | nx (env : Ev) | bk (env : Ev) | ct (env : Ev) | rt (v : Vl)
abbrev DS := Ev → Tp → Option (Out × Tp)
def EndOk (g : G) (Hs : Hp) (τ' : Tp) (o : Out) (E : Ends) : Prop := match o with
  | .nx env' => ∀ σ' Hs' H', Same Hs Hs' → Rel g Hs' H' σ' env' τ' → E.nx σ' H'
  | .bk env' => ∀ σ' Hs' H', Same Hs Hs' → Rel g Hs' H' σ' env' τ' → E.bk σ' H'
  | .ct env' => ∀ σ' Hs' H', Same Hs Hs' → Rel g Hs' H' σ' env' τ' → E.ct σ' H'
  | .rt v => ∀ w Hs' H', Same Hs Hs' → Rel g Hs' H' [] [] τ' → RepV g.aT Hs' H' w v → (v.own = true → ∀ p, w = .ref p → g.H0 p = none) → E.rt w H'
theorem EndOk.mono {g : G} {Hs Hs1 : Hp} {τ' : Tp} {o : Out} {E : Ends} (h : EndOk g Hs τ' o E) (s : Same Hs Hs1) : EndOk g Hs1 τ' o E := by
  cases o with
  | nx env' => exact fun σ' Hs' H' s' r => h σ' Hs' H' (s.trans s') r
  | bk env' => exact fun σ' Hs' H' s' r => h σ' Hs' H' (s.trans s') r
  | ct env' => exact fun σ' Hs' H' s' r => h σ' Hs' H' (s.trans s') r
  | rt v => exact fun w Hs' H' s' r => h w Hs' H' (s.trans s') r
def tS (f : DS) : TS := fun E σ H => ∃ g Hs env τ o τ', Rel g Hs H σ env τ ∧ f env τ = some (o, τ') ∧ EndOk g Hs τ' o E
abbrev JS (X : Cx) (st : Stmt) (f : DS) : Prop := PS X st (tS f)
abbrev JSs (X : Cx) (sts : List Stmt) (f : DS) : Prop := PSs X sts (tS f)
theorem Rel.bas {g : G} {Hs H : Hp} {σ : Sl} {env : Ev} {τ : Tp} (r : Rel g Hs H σ env τ) : Rel g Hs H [] [] τ := r.drop rfl fun i v e => by simp at e
section
variable {X : Cx} {st : Stmt} {sts rest : List Stmt} {pos : Pos} {e : Expr}
theorem PSi {t t' : TS} (h : PS X st t) (i : ∀ E σ H, t' E σ H → t E σ H) : PS X st t' := ⟨fun pins s σ H E I k => h.run pins s σ H E I (i E σ H k)⟩
theorem PSsi {t t' : TS} (h : PSs X sts t) (i : ∀ E σ H, t' E σ H → t E σ H) : PSs X sts t' := ⟨fun pins s σ H E I k => h.run pins s σ H E I (i E σ H k)⟩
/-! ### blocks -/
def sNil : DS := fun env τ => some (.nx env, τ)
def sSeq (f k : DS) : DS := fun env τ => bnd (f env τ) fun o τ' => match o with
  | .nx env' => k env' τ'
  | o => some (o, τ')
theorem js_nil : JSs X [] sNil := PSsi pss_nil fun E σ H ⟨g, Hs, env, τ, o, τ', r, hf, q⟩ => by
  cases hf
  exact q σ Hs H (.refl _) r
theorem js_cons {f k : DS} (h1 : JS X st f) (h2 : JSs X rest k) : JSs X (st :: rest) (sSeq f k) := PSsi (pss_cons h1 h2) fun E σ H ⟨g, Hs, env, τ, o, τ', r, hf, q⟩ => by
  obtain ⟨o1, τ1, h1, h2⟩ := bnd_eq hf
  refine ⟨g, Hs, env, τ, o1, τ1, r, h1, ?_⟩
  cases o1 with
  | nx env1 => exact fun σ' Hs' H' s r' => ⟨g, Hs', env1, τ1, o, τ', r', h2, q.mono s⟩
  | bk env1 => cases h2; exact q
  | ct env1 => cases h2; exact q
  | rt v => cases h2; exact q
theorem js_one {f : DS} (h1 : JS X st f) : JSs X [st] f := pss_one h1
def sPass : DS := fun env τ => some (.nx env, τ)
theorem js_if {c : Expr} {a b : List Stmt} {ct : DT} {f k : DS} (hc : JT X c ct) (ha : JSs X a f) (hb : JSs X b k) : JS X (.If c a b pos) (fun env τ => bnd (ct env τ) fun x τ' => if x = true then f env τ' else k env τ') :=
  PSi (ps_if hc ha hb) fun E σ H ⟨g, Hs, env, τ, o, τ', r, hf, q⟩ => by
    obtain ⟨x, τ1, h1, h2⟩ := bnd_eq hf
    refine ⟨g, Hs, env, τ, x, τ1, r, h1, fun Hs1 H1 u1 => ?_⟩
    cases x with
    | true => exact iteT ⟨g, Hs1, env, τ1, o, τ', r.up u1, h2, q.mono u1.s⟩
    | false => exact iteF ⟨g, Hs1, env, τ1, o, τ', r.up u1, h2, q.mono u1.s⟩
def sIf (c : DT) (f k : DS) : DS := fun env τ => bnd (c env τ) fun x τ' => if x = true then f env τ' else k env τ'
theorem jif_s {c : Expr} {a b : List Stmt} {ct : DT} {f k : DS} (hc : JT X c ct) (ha : JSs X a f) (hb : JSs X b k) : JS X (.If c a b pos) (sIf ct f k) := js_if hc ha hb
/-! ### return -/
def sRet (f : DE) : DS := fun env τ => bnd (f env τ) fun v τ' => match v with
  | .tp => none
  | v => some (.rt v, τ')
theorem Rel.old0 {g : G} {Hs H : Hp} {σ : Sl} {env : Ev} {τ : Tp} (r : Rel g Hs H σ env τ) {p : Addr} (h : H p = none) : g.H0 p = none := by
  exact r.bk p h
theorem js_ret {f : DE} (he : JV X e f) : JS X (.Return (some e) pos) (sRet f) := PSi (ps_ret he) fun E σ H ⟨g, Hs, env, τ, o, τ', r, hf, q⟩ => by
  obtain ⟨v, τ1, h1, h2⟩ := bnd_eq hf
  refine ⟨g, Hs, env, τ, v, τ1, r, h1, fun w Hs1 H1 u1 rv fr => ?_⟩
  have h3 : o = .rt v ∧ τ' = τ1 := by
    cases v <;> first | (cases h2; exact ⟨rfl, rfl⟩) | cases h2
  obtain ⟨rfl, rfl⟩ := h3
  exact q w Hs1 H1 u1.s (r.up u1).bas rv fun ho p ep => r.old0 (fr ho p ep)
/-- return of one's own list or dict -/
def sRetO (i : Nat) : DS := fun env τ => match env[i]? with
  | some (some .tp) => none
  | some (some v) => some (.rt v, τ)
  | _ => none
theorem js_retO {i : Nat} {x : Str} {p1 : Pos} (hN : X.N[i]? = some x := by rfl) (hv : Vis X.env.scope x := by first | exact Or.inl rfl | exact Or.inr (Or.inl rfl) | exact Or.inr (Or.inr rfl)) (hd : (x == ("__debug__" : Str)) = false := by decide) (hcd : (x == ("__classdict__" : Str)) = false := by decide) :
    JS X (.Return (some (.Name x p1)) pos) (sRetO i) := PSi (ps_ret (pe_var hN hv hd hcd)) fun E σ H ⟨g, Hs, env, τ, o, τ', r, hf, q⟩ => by
  unfold sRetO at hf
  split at hf
  · cases hf
  · rename_i v hv he
    cases hf
    obtain ⟨w, h1, h2⟩ := r.sl i _ he
    exact ⟨w, h1, q w Hs H (.refl _) r.bas h2 fun ho p ep => r.ow i v p he ho (by rw [← ep]; exact h1)⟩
  · cases hf
/-! ### assignments -/
/-- the result is shared from here on; .. stays one's own -/
def sAsg (i : Nat) (f : DE) : DS := fun env τ => bnd (shD f env τ) fun d τ' => some (.nx (env.set i (some (.sh d))), τ')
def sAsgO (i : Nat) (f : DE) : DS := fun env τ => bnd (f env τ) fun v τ' => if v.own = true then some (.nx (env.set i (some v)), τ') else none
theorem shD_run {f : DE} {t : TE} (h : ∀ σ H Q, tV f σ H Q → t σ H Q) : ∀ σ H Q, tD (shD f) σ H Q → t σ H Q := fun σ H Q ⟨g, Hs, env, τ, d, τ', r, hf, q⟩ => by
  obtain ⟨v, τ1, h1, h2⟩ := bnd_eq hf
  refine h σ H Q ⟨g, Hs, env, τ, v, τ1, r, h1, fun w Hs' H' u rv fr => ?_⟩
  cases v with
  | sh d' => cases h2; exact q w Hs' H' u rv
  | ow ds =>
    cases h2
    obtain ⟨p, xs, rfl, n, hn, hp, hl, hr⟩ := rv
    have u2 := u.share (fr rfl p rfl) hp hn n
    exact q _ _ H' u2 (.lst upd_same hl (hr.to (same_upd hn)))
  | dk _ => cases h2
  | dt _ => cases h2
  | tp => cases h2
theorem asg_run {i : Nat} {f : DE} {t : TE} (h : ∀ σ H Q, tV f σ H Q → t σ H Q) : ∀ E σ H, tS (sAsg i f) E σ H → tAsg t (gName i) E σ H := fun E σ H ⟨g, Hs, env, τ, o, τ', r, hf, q⟩ => by
  obtain ⟨d, τ1, h1, h2⟩ := bnd_eq hf
  cases h2
  refine shD_run h σ H _ ⟨g, Hs, env, τ, d, _, r, h1, fun w Hs1 H1 u1 rd => ?_⟩
  exact q _ Hs1 H1 u1.s ((r.up u1).set i rd)
theorem Rel.apart {g : G} {Hs H : Hp} {σ : Sl} {env : Ev} {τ : Tp} (r : Rel g Hs H σ env τ) {p : Addr} (h : H p = none) (j : Nat) (u : Vl) (e : env[j]? = some (some u)) (ho : u.own = true) : σ[j]? ≠ some (some (.ref p)) := fun z => by
  obtain ⟨w, h1, h2⟩ := r.sl j u e
  rw [h1] at z
  cases z
  cases u with
  | sh d => cases ho
  | ow ds => obtain ⟨p', xs, e1, _, _, hp, _⟩ := h2; cases e1; rw [h] at hp; cases hp
  | dk ds => obtain ⟨p', xs, e1, _, _, hp, _⟩ := h2; cases e1; rw [h] at hp; cases hp
  | dt ds => obtain ⟨p', xs, e1, _, _, hp, _⟩ := h2; cases e1; rw [h] at hp; cases hp
  | tp => cases ho
theorem asgO_run {i : Nat} {f : DE} {t : TE} (h : ∀ σ H Q, tV f σ H Q → t σ H Q) : ∀ E σ H, tS (sAsgO i f) E σ H → tAsg t (gName i) E σ H := fun E σ H ⟨g, Hs, env, τ, o, τ', r, hf, q⟩ => by
  obtain ⟨v, τ1, h1, h2⟩ := bnd_eq hf
  split at h2
  · cases h2
    refine h σ H _ ⟨g, Hs, env, τ, v, _, r, h1, fun w Hs1 H1 u1 rv fr => ?_⟩
    exact q _ Hs1 H1 u1.s ((r.up u1).setv i rv fun ho p ep => ⟨r.old0 (fr ho p ep), fun j u e ho' => r.apart (fr ho p ep) j u e ho'⟩)
  · cases h2
theorem js_asg {i : Nat} {x : Str} {pos' : Pos} {f : DE} (hN : X.N.Nodup) (he : JV X e f) (hi : X.N[i]? = some x := by rfl) (hx : Loc X.env.scope x := by first | exact Or.inl rfl | exact Or.inr rfl) (hs : swapsWith e (some (.Name x pos')) pos.line X.env = pure false := by rfl) (hf : X.fn x = true ∨ X.env.scope.names.lookup x = some .local := by first | exact .inl rfl | exact .inr rfl) :
    JS X (.Assign [.Name x pos'] e pos) (sAsg i f) := PSi (ps_set hN hi hx he hs hf) (asg_run fun _ _ _ h => h)
theorem js_asgO {i : Nat} {x : Str} {pos' : Pos} {f : DE} (hN : X.N.Nodup) (he : JV X e f) (hi : X.N[i]? = some x := by rfl) (hx : Loc X.env.scope x := by first | exact Or.inl rfl | exact Or.inr rfl) (hs : swapsWith e (some (.Name x pos')) pos.line X.env = pure false := by rfl) (hf : X.fn x = true ∨ X.env.scope.names.lookup x = some .local := by first | exact .inl rfl | exact .inr rfl) :
    JS X (.Assign [.Name x pos'] e pos) (sAsgO i f) := PSi (ps_set hN hi hx he hs hf) (asgO_run fun _ _ _ h => h)
/-- a comprehension given to a local on one line -/
theorem js_asgC {i : Nat} {y : Str} {py spos : Pos} {elt tg iter : Expr} {ifs : List Expr} {scope : Scope} {own : List (Str × Nat)} {is : List Nat} {it : DI} {b : DG} {c : DT} {ed : DD} (hN : X.N.Nodup) (hi : JC X tg iter it) (ok : BlkOk X.N X.env.scope scope own)
    (hg : ∀ (s : Shared) (H : Hp) (C : Addr) (cl : List (Str × Addr)) (fp : List Addr), JG (X.blk s H scope (compEnvC scope cl C X.env) fp) tg is b)
    (ht : ∀ (s : Shared) (H : Hp) (C : Addr) (cl : List (Str × Addr)) (fp : List Addr), JTs (X.blk s H scope (compEnvC scope cl C X.env) fp) ifs c)
    (he : ∀ (s : Shared) (H : Hp) (C : Addr) (cl : List (Str × Addr)) (fp : List Addr), JD (X.blk s H scope (compEnvC scope cl C X.env) fp) elt ed)
    (hsw : swapsWith (.ListComp elt [⟨tg, iter, ifs, 0⟩] scope pos) (some (.Name y py)) spos.line X.env = pure true := by exact sw_true rfl rfl rfl (by decide +kernel))
    (his : ∀ i ∈ is, i ∈ own.map (·.2) := by decide) (hc : X.calm = true := by rfl) (hs : ∀ x, foldedSetIterable iter X.env x = pure x := by intro _; rfl) (hy : X.N[i]? = some y := by rfl) (hyl : X.env.scope.names.lookup y = some .local := by rfl) :
    JS X (.Assign [.Name y py] (.ListComp elt [⟨tg, iter, ifs, 0⟩] scope pos) spos) (sAsg i (dComp (own.map (·.2)) it b c ed)) := PSi (ps_setLc hc hN hy hyl hsw hi ok hg ht he hs) (asg_run (lc_run his))
theorem js_asgCO {i : Nat} {y : Str} {py spos : Pos} {elt tg iter : Expr} {ifs : List Expr} {scope : Scope} {own : List (Str × Nat)} {is : List Nat} {it : DI} {b : DG} {c : DT} {ed : DD} (hN : X.N.Nodup) (hi : JC X tg iter it) (ok : BlkOk X.N X.env.scope scope own)
    (hg : ∀ (s : Shared) (H : Hp) (C : Addr) (cl : List (Str × Addr)) (fp : List Addr), JG (X.blk s H scope (compEnvC scope cl C X.env) fp) tg is b)
    (ht : ∀ (s : Shared) (H : Hp) (C : Addr) (cl : List (Str × Addr)) (fp : List Addr), JTs (X.blk s H scope (compEnvC scope cl C X.env) fp) ifs c)
    (he : ∀ (s : Shared) (H : Hp) (C : Addr) (cl : List (Str × Addr)) (fp : List Addr), JD (X.blk s H scope (compEnvC scope cl C X.env) fp) elt ed)
    (hsw : swapsWith (.ListComp elt [⟨tg, iter, ifs, 0⟩] scope pos) (some (.Name y py)) spos.line X.env = pure true := by exact sw_true rfl rfl rfl (by decide +kernel))
    (his : ∀ i ∈ is, i ∈ own.map (·.2) := by decide) (hc : X.calm = true := by rfl) (hs : ∀ x, foldedSetIterable iter X.env x = pure x := by intro _; rfl) (hy : X.N[i]? = some y := by rfl) (hyl : X.env.scope.names.lookup y = some .local := by rfl) :
    JS X (.Assign [.Name y py] (.ListComp elt [⟨tg, iter, ifs, 0⟩] scope pos) spos) (sAsgO i (dComp (own.map (·.2)) it b c ed)) := PSi (ps_setLc hc hN hy hyl hsw hi ok hg ht he hs) (asgO_run (lc_run his))
/-- a, b = e, e a tuple -/
def sUnp (b : DG) (f : DD) : DS := fun env τ => bnd (f env τ) fun d τ' => (b d env).map fun env' => (.nx env', τ')
theorem js_unp {tg : Expr} {is : List Nat} {b : DG} {f : DD} (he : JD X e f) (hg : JG X tg is b) (hs : swapsWithSole [tg] e pos.line X.env = pure false := by rfl) (hw : swappedStores [tg] e X.env = pure none := by rfl) (h1 : (assignEach [tg] X.env).map (·.2) = [assign tg X.env] := by rfl) :
    JS X (.Assign [tg] e pos) (sUnp b f) := PSi (ps_asg he hg hs hw h1) fun E σ H ⟨g, Hs, env, τ, o, τ', r, hf, q⟩ => by
  obtain ⟨d, τ1, h1, h2⟩ := bnd_eq hf
  refine ⟨g, Hs, env, τ, d, τ1, r, h1, fun w Hs1 H1 u1 rd => ?_⟩
  cases hb : b d env with
  | none => rw [hb] at h2; cases h2
  | some env' =>
    rw [hb] at h2
    cases h2
    exact ⟨g, Hs1, env, _, d, env', r.up u1, rd, hb, fun σ' r' _ => q σ' Hs1 H1 u1.s r'⟩
/-! several values, own ones among them -/
abbrev DW := Ev → Tp → Option (List Vl × Tp)
/-- new own things stand apart -/
def OwnAp (H : Hp) (ws : List V) (vs : List Vl) : Prop := (∀ (i : Nat) v p, vs[i]? = some v → v.own = true → ws[i]? = some (V.ref p) → H p = none) ∧
  ∀ (i j : Nat) v v' p, vs[i]? = some v → vs[j]? = some v' → v.own = true → v'.own = true → ws[i]? = some (V.ref p) → ws[j]? = some (V.ref p) → i = j
def tWs (f : DW) : TA := fun σ H Q => ∃ g Hs env τ vs τ', Rel g Hs H σ env τ ∧ f env τ = some (vs, τ') ∧ ∀ ws Hs' H', Up g Hs H Hs' H' τ' → Paired (RepV g.aT Hs' H') ws vs → OwnAp H ws vs → Q ws H'
abbrev JWs (X : Cx) (es : List Expr) (f : DW) : Prop := PA X es (tWs f)
def wNil : DW := fun _ τ => some ([], τ)
/-- own: the value stays one's own; else it is shared -/
def wCons (f : DD) (k : DW) : DW := fun env τ => bnd (f env τ) fun x τ1 => bnd (k env τ1) fun xs τ2 => some (.sh x :: xs, τ2)
def wConsO (f : DE) (k : DW) : DW := fun env τ => bnd (f env τ) fun x τ1 => bnd (k env τ1) fun xs τ2 => if x.own = true then some (x :: xs, τ2) else none
theorem jw_nil : JWs X [] wNil := PAi pa_nil fun σ H Q ⟨g, Hs, env, τ, d, τ', r, hf, q⟩ => by
  cases hf
  exact q [] Hs H (.refl r.le r.tp) .nil ⟨fun i v p h => by simp at h, fun i j v v' p h => by simp at h⟩
variable {es : List Expr}
theorem jw_cons {f : DD} {k : DW} (he : JD X e f) (hk : JWs X es k) (hs : starEach (e :: es) X.env = (false, eval e X.env) :: starEach es X.env := by rfl) : JWs X (e :: es) (wCons f k) :=
  PAi (pa_cons he hk hs) fun σ H Q ⟨g, Hs, env, τ, ds, τ', r, hf, q⟩ => by
    obtain ⟨x, τ1, h1, h2⟩ := bnd_eq hf
    obtain ⟨xs, τ2, h3, h4⟩ := bnd_eq h2
    cases h4
    refine ⟨g, Hs, env, τ, x, τ1, r, h1, fun w Hs1 H1 u1 r1 => ?_⟩
    refine ⟨g, Hs1, env, τ1, xs, τ', r.up u1, h3, fun ws Hs2 H2 u2 r2 ap => ?_⟩
    refine q (w :: ws) Hs2 H2 (u1.trans u2) (.cons (r1.to u2.s) r2) ⟨fun i v p hv ho hw => ?_, fun i j v v' p hv hv' ho ho' hw hw' => ?_⟩
    · cases i with
      | zero => simp at hv; subst hv; cases ho
      | succ i => exact u1.old (ap.1 i v p (by simpa using hv) ho (by simpa using hw))
    · cases i with
      | zero => simp at hv; subst hv; cases ho
      | succ i =>
        cases j with
        | zero => simp at hv'; subst hv'; cases ho'
        | succ j => rw [ap.2 i j v v' p (by simpa using hv) (by simpa using hv') ho ho' (by simpa using hw) (by simpa using hw')]
theorem jw_consO {f : DE} {k : DW} (he : JV X e f) (hk : JWs X es k) (hs : starEach (e :: es) X.env = (false, eval e X.env) :: starEach es X.env := by rfl) : JWs X (e :: es) (wConsO f k) :=
  PAi (pa_cons he hk hs) fun σ H Q ⟨g, Hs, env, τ, ds, τ', r, hf, q⟩ => by
    obtain ⟨x, τ1, h1, h2⟩ := bnd_eq hf
    obtain ⟨xs, τ2, h3, h4⟩ := bnd_eq h2
    split at h4
    · rename_i hox
      cases h4
      refine ⟨g, Hs, env, τ, x, τ1, r, h1, fun w Hs1 H1 u1 r1 fr => ?_⟩
      refine ⟨g, Hs1, env, τ1, xs, τ', r.up u1, h3, fun ws Hs2 H2 u2 r2 ap => ?_⟩
      have there : ∀ p, w = .ref p → ∃ o, H1 p = some o := fun p ep => by
        cases x with
        | sh d => cases hox
        | ow ds => obtain ⟨p', xs, e1, _, _, hp, _⟩ := r1; rw [ep] at e1; cases e1; exact ⟨_, hp⟩
        | dk ds => obtain ⟨p', xs, e1, _, _, hp, _⟩ := r1; rw [ep] at e1; cases e1; exact ⟨_, hp⟩
        | dt ds => obtain ⟨p', xs, e1, _, _, hp, _⟩ := r1; rw [ep] at e1; cases e1; exact ⟨_, hp⟩
        | tp => cases hox
      refine q (w :: ws) Hs2 H2 (u1.trans u2) (.cons (RepV.up u2 r1) r2) ⟨fun i v p hv ho hw => ?_, fun i j v v' p hv hv' ho ho' hw hw' => ?_⟩
      · cases i with
        | zero =>
          simp at hv hw
          subst hv
          exact fr ho p hw
        | succ i => exact u1.old (ap.1 i v p (by simpa using hv) ho (by simpa using hw))
      · cases i with
        | zero =>
          cases j with
          | zero => rfl
          | succ j =>
            simp at hw
            obtain ⟨o, z⟩ := there p hw
            rw [ap.1 j v' p (by simpa using hv') ho' (by simpa using hw')] at z
            cases z
        | succ i =>
          cases j with
          | zero =>
            simp at hw'
            obtain ⟨o, z⟩ := there p hw'
            rw [ap.1 i v p (by simpa using hv) ho (by simpa using hw)] at z
            cases z
          | succ j => rw [ap.2 i j v v' p (by simpa using hv) (by simpa using hv') ho ho' (by simpa using hw) (by simpa using hw')]
    · cases h4
def setV (is : List Nat) (vs : List Vl) (env : Ev) : Ev := (is.zip vs).foldl (fun e p => e.set p.1 (some p.2)) env
def setW (is : List Nat) (ws : List V) (σ : Sl) : Sl := (is.zip ws).foldl (fun e p => e.set p.1 (some p.2)) σ
theorem Rel.setAll {g : G} {Hs H0 H : Hp} {τ : Tp} (hb : ∀ b, H0 b = none → g.H0 b = none) : ∀ {is : List Nat} {ws : List V} {vs : List Vl} {σ : Sl} {env : Ev}, Rel g Hs H σ env τ → Paired (RepV g.aT Hs H) ws vs → OwnAp H0 ws vs →
    (∀ (k : Nat) v p, vs[k]? = some v → v.own = true → ws[k]? = some (V.ref p) → ∀ (j : Nat) (u : Vl), env[j]? = some (some u) → u.own = true → σ[j]? ≠ some (some (.ref p))) →
    Rel g Hs H (setW is ws σ) (setV is vs env) τ
  | [], _, _, _, _, r, _, _, _ => r
  | _ :: _, _, _, _, _, r, .nil, _, _ => r
  | i :: is, _, _, σ, env, r, @Paired.cons _ _ _ w v ws vs a b, ap, hd => by
    have r1 : Rel g Hs H (σ.set i (some w)) (env.set i (some v)) τ := r.setv i a fun ho p ep => ⟨(by
      have h0 := ap.1 0 v p rfl ho (by rw [ep]; rfl)
      exact hb p h0), fun j u e ho' => hd 0 v p rfl ho (by rw [ep]; rfl) j u e ho'⟩
    refine Rel.setAll hb (is := is) r1 b ⟨fun k v' p h1 h2 h3 => ap.1 (k + 1) v' p (by simpa using h1) h2 (by simpa using h3), fun k j v1 v2 p h1 h2 h3 h4 h5 h6 => by
      have := ap.2 (k + 1) (j + 1) v1 v2 p (by simpa using h1) (by simpa using h2) h3 h4 (by simpa using h5) (by simpa using h6)
      omega⟩ fun k v' p h1 h2 h3 j u e ho' z => ?_
    by_cases hj : i = j
    · subst hj
      by_cases hl : i < env.length
      · rw [List.getElem?_set_self hl] at e
        rw [List.getElem?_set_self (by rw [← r.ln]; exact hl)] at z
        cases e; cases z
        have := ap.2 0 (k + 1) v v' p rfl (by simpa using h1) ho' h2 rfl (by simpa using h3)
        omega
      · rw [List.getElem?_eq_none (by rw [List.length_set]; omega)] at e
        cases e
    · rw [List.getElem?_set_ne hj] at e z
      exact hd (k + 1) v' p (by simpa using h1) h2 (by simpa using h3) j u e ho' z
def sPar (is : List Nat) (f : DW) : DS := fun env τ => bnd (f env τ) fun vs τ' => if vs.length = is.length then some (.nx (setV is vs env), τ') else none
theorem paired_len' {α β : Type} {R : α → β → Prop} {as : List α} {bs : List β} (h : Paired R as bs) : as.length = bs.length := paired_len h
theorem par_rel {g : G} {Hs Hs1 H H1 H2 : Hp} {σ : Sl} {env : Ev} {τ τ1 : Tp} {is : List Nat} {ws : List V} {vs : List Vl} (r : Rel g Hs H σ env τ) (u1 : Up g Hs H Hs1 H1 τ1) (u2 : Up g Hs1 H1 Hs1 H2 τ1) (rv : Paired (RepV g.aT Hs1 H1) ws vs) (ap : OwnAp H ws vs) :
    Rel g Hs1 H2 (setW is ws σ) (setV is vs env) τ1 :=
  Rel.setAll r.bk ((r.up u1).up u2) (Paired.mapP rv fun _ _ z => z.up u2) ap fun k v p h1 h2 h3 j u e ho z => r.apart (ap.1 k v p h1 h2 h3) j u e ho z
/-- a, b = x, y: two plain locals -/
theorem js_par2 {i j : Nat} {x y : Str} {a b : Expr} {f : DW} {px py pt : Pos} {kt k2 : Nat} {pt2 : Pos} (hN : X.N.Nodup) (ha : JWs X [a, b] f) (hi : X.N[i]? = some x := by rfl) (hj : X.N[j]? = some y := by rfl) (hij : i ≠ j := by decide) (hx : X.env.scope.names.lookup x = some .local := by rfl) (hy : X.env.scope.names.lookup y = some .local := by rfl)
    (hw : swappedStores [.Tuple [.Name x px, .Name y py] kt pt] (.Tuple [a, b] k2 pt2) X.env = pure (some [x, y]) := by rfl) (hs : swapsWithSole [.Tuple [.Name x px, .Name y py] kt pt] (.Tuple [a, b] k2 pt2) pos.line X.env = pure false := by rfl) (hc : X.calm = true := by rfl) :
    JS X (.Assign [.Tuple [.Name x px, .Name y py] kt pt] (.Tuple [a, b] k2 pt2) pos) (sPar [i, j] f) := PSi (ps_par hc hN hi hj hij hx hy ha hw hs) fun E σ H ⟨g, Hs, env, τ, o, τ', r, hf, q⟩ => by
  obtain ⟨vs, τ1, h1, h2⟩ := bnd_eq hf
  split at h2
  · rename_i hl
    cases h2
    refine ⟨g, Hs, env, τ, vs, _, r, h1, fun ws Hs1 H1 u1 rv ap => ?_⟩
    have hr := par_rel (is := [i, j]) r u1 (Up.refl u1.le u1.tp) rv ap
    cases rv with
    | nil => cases hl
    | cons a b =>
      cases b with
      | nil => cases hl
      | cons a2 b2 =>
        cases b2 with
        | nil => exact ⟨_, _, rfl, q _ Hs1 H1 u1.s hr⟩
        | cons _ _ => cases hl
  · cases h2
/-- through a tuple that is made and taken apart -/
def gAll (is : List Nat) : TGs := fun ws σ H Q => ws.length = is.length ∧ Q (setW is ws σ) H
theorem ga_nil : PGs X [] (gAll []) := PGsi pgs_nil fun v σ H Q ⟨hl, q⟩ => ⟨List.eq_nil_of_length_eq_zero hl, q⟩
theorem ga_cons {i : Nat} {is : List Nat} {x : Str} {p1 : Pos} {es : List Expr} (hN : X.N.Nodup) (h2 : PGs X es (gAll is)) (hi : X.N[i]? = some x := by rfl) (hx : Loc X.env.scope x := by first | exact Or.inl rfl | exact Or.inr rfl) (hf : X.fn x = true ∨ X.env.scope.names.lookup x = some .local := by first | exact .inl rfl | exact .inr rfl) (hs : (assignEach (.Name x p1 :: es) X.env).map (·.2) = assign (.Name x p1) X.env :: (assignEach es X.env).map (·.2) := by rfl) : PGs X (.Name x p1 :: es) (gAll (i :: is)) :=
  PGsi (pgs_cons (pg_name hN hi hx hf) h2 hs) fun ws σ H Q ⟨hl, q⟩ => by
    cases ws with
    | nil => cases hl
    | cons w ws => exact ⟨w, ws, rfl, by simpa using hl, q⟩
theorem js_parT {ts es : List Expr} {is : List Nat} {f : DW} {kt k2 : Nat} {pt pt2 : Pos} (ha : JWs X es f) (hg : PGs X ts (gAll is)) (hl2 : is.length ≤ 1000 := by decide) (hc : X.calm = true := by rfl) (hn : (assignEach ts X.env).length = is.length := by rfl) (hst : (assignEach ts X.env).findIdx? (·.1) = none := by rfl)
    (hs : swapsWithSole [.Tuple ts kt pt] (.Tuple es k2 pt2) pos.line X.env = pure false := by rfl) (hw : swappedStores [.Tuple ts kt pt] (.Tuple es k2 pt2) X.env = pure none := by rfl) (h1 : (assignEach [.Tuple ts kt pt] X.env).map (·.2) = [assign (.Tuple ts kt pt) X.env] := by rfl) :
    JS X (.Assign [.Tuple ts kt pt] (.Tuple es k2 pt2) pos) (sPar is f) := PSi (ps_asg (pe_tup ha) (pg_tup hc hg hn hst) hs hw h1) fun E σ H ⟨g, Hs, env, τ, o, τ', r, hf, q⟩ => by
  obtain ⟨vs, τ1, h1, h2⟩ := bnd_eq hf
  split at h2
  · rename_i hl
    cases h2
    refine ⟨g, Hs, env, τ, vs, _, r, h1, fun ws Hs1 H1 u1 rv ap => ?_⟩
    have hlw : ws.length = is.length := by rw [paired_len rv]; exact hl
    refine ⟨Nat.le_trans (by rw [hlw]; exact hl2) line1000, fun p hp => ⟨p, ws, rfl, .of upd_same, hlw, hlw, ?_⟩⟩
    exact q _ Hs1 _ u1.s (par_rel (is := is) r u1 ((Up.refl u1.le u1.tp).mk1 hp) rv ap)
  · cases h2
/-! ### one's own lists and dicts changed -/
def frz (i : Nat) (f : DS) : DS := fun env τ => match env[i]? with
  | some (some (.ow ds)) => f (env.set i (some (.sh (.list ds)))) τ
  | _ => f env τ
theorem Rel.freeze {g : G} {Hs H : Hp} {σ : Sl} {env : Ev} {τ : Tp} {i : Nat} {ds : List D} (r : Rel g Hs H σ env τ) (he : env[i]? = some (some (.ow ds))) : ∃ Hs', Same Hs Hs' ∧ Rel g Hs' H σ (env.set i (some (.sh (.list ds)))) τ := by
  obtain ⟨w, h1, p, xs, rfl, nT, hn, hp, hl, hr⟩ := r.sl i _ he
  have h0 := r.ow i _ p he rfl h1
  have nS : g.aS ≠ p := fun e => by subst e; rw [r.tp.s] at hn; cases hn
  have hi : i < env.length := (List.getElem?_eq_some_iff.mp he).1
  have sm : Same Hs (upd Hs p (.lst xs)) := same_upd hn
  refine ⟨upd Hs p (.lst xs), sm, fun b q e => ?_, ⟨r.tp.tb, r.tp.tn_lst hp, r.tp.h, by rw [upd_ne nT.symm]; exact r.tp.n, sm _ _ r.tp.s, r.tp.l⟩, r.ls.trans sm, r.bs, r.bk, fun b o e n => ?_, fun j v e => ?_, fun j v q e ho hq => ?_, fun j k v v' q e e' ho ho' hq hq' => ?_, by rw [List.length_set]; exact r.ln⟩
  · by_cases hb : b = p
    · subst hb; rw [upd_same] at e; cases e; exact hp
    · rw [upd_ne hb] at e; exact r.le _ _ e
  · by_cases hb : b = p
    · subst hb; exact h0
    · rw [upd_ne hb] at e; exact r.fr _ _ e n
  · by_cases hj : i = j
    · subst hj
      rw [List.getElem?_set_self hi] at e
      cases e
      exact ⟨_, h1, .lst upd_same hl (hr.to sm)⟩
    · rw [List.getElem?_set_ne hj] at e
      obtain ⟨w, h2, h3⟩ := r.sl j v e
      refine ⟨w, h2, ?_⟩
      have key : ∀ p', w = .ref p' → v.own = true → p' ≠ p := fun p' e1 ho e2 => by
        subst e1; subst e2
        exact hj (r.ap i j _ v _ he e rfl ho h1 h2)
      cases v with
      | sh d => exact Rp.to h3 sm
      | ow ds' =>
        obtain ⟨p', xs', e1, n1, n2, n3, n4, n5⟩ := h3
        exact ⟨p', xs', e1, n1, by rw [upd_ne (key p' e1 rfl)]; exact n2, n3, n4, n5.to sm⟩
      | dk ds' =>
        obtain ⟨p', xs', e1, n1, n2, n3, n4⟩ := h3
        exact ⟨p', xs', e1, n1, by rw [upd_ne (key p' e1 rfl)]; exact n2, n3, n4.to sm⟩
      | dt ds' =>
        obtain ⟨p', xs', e1, n1, n2, n3, n4⟩ := h3
        exact ⟨p', xs', e1, n1, by rw [upd_ne (key p' e1 rfl)]; exact n2, n3, n4.to sm⟩
      | tp => exact h3
  · by_cases hj : i = j
    · subst hj
      rw [List.getElem?_set_self hi] at e
      cases e; cases ho
    · rw [List.getElem?_set_ne hj] at e
      exact r.ow j v q e ho hq
  · by_cases hj : i = j
    · subst hj
      rw [List.getElem?_set_self hi] at e
      cases e; cases ho
    · by_cases hk : i = k
      · subst hk
        rw [List.getElem?_set_self hi] at e'
        cases e'; cases ho'
      · rw [List.getElem?_set_ne hj] at e
        rw [List.getElem?_set_ne hk] at e'
        exact r.ap j k v v' q e e' ho ho' hq hq'
theorem frz_run {i : Nat} {f : DS} : ∀ E σ H, tS (frz i f) E σ H → tS f E σ H := fun E σ H ⟨g, Hs, env, τ, o, τ', r, hf, q⟩ => by
  unfold frz at hf
  split at hf
  · rename_i ds he
    obtain ⟨Hs', s, r'⟩ := r.freeze he
    exact ⟨g, Hs', _, τ, o, τ', r', hf, q.mono s⟩
  · exact ⟨g, Hs, env, τ, o, τ', r, hf, q⟩
theorem jfrz {f : DS} (i : Nat) (h : JS X st f) : JS X st (frz i f) := PSi h frz_run
theorem jfrzs {f : DS} (i : Nat) (h : JSs X sts f) : JSs X sts (frz i f) := PSsi h frz_run
/-- an own list or dict is written -/
theorem Rel.mut {g : G} {Hs H : Hp} {σ : Sl} {env : Ev} {τ : Tp} {i : Nat} {v v' : Vl} {p : Addr} {o' : HO} (r : Rel g Hs H σ env τ) (he : env[i]? = some (some v)) (ho : v.own = true) (hσ : σ[i]? = some (some (.ref p))) (nT : p ≠ g.aT) (hn : Hs p = none)
    (hr : RepV g.aT Hs (upd H p o') (.ref p) v') : Rel g Hs (upd H p o') σ (env.set i (some v')) τ := by
  have hi : i < env.length := (List.getElem?_eq_some_iff.mp he).1
  have h0 := r.ow i v p he ho hσ
  obtain ⟨o1, hp1, hm1⟩ : ∃ o1, H p = some o1 ∧ mu o1 = true := by
    obtain ⟨w, q1, q2⟩ := r.sl i v he
    rw [hσ] at q1; cases q1
    exact q2.mu ho
  refine ⟨fun b q e => by rw [upd_ne (ne_of_none e hn)]; exact r.le b q e, ⟨tabs_ne r.tp.tb hp1 hm1 _, r.tp.tn, by rw [upd_ne nT.symm]; exact r.tp.h, r.tp.n, r.tp.s, r.tp.l⟩, r.ls, fun b q e n m => by rw [upd_ne (ne_of_none e h0)]; exact r.bs b q e n m, fun b h => r.bk b (upd_none h), r.fr, fun j u e => ?_, fun j u q e ho' hq => ?_, fun j k u u' q e e' ho1 ho2 hq hq' => ?_, by rw [List.length_set]; exact r.ln⟩
  · by_cases hj : i = j
    · subst hj
      rw [List.getElem?_set_self hi] at e
      cases e
      exact ⟨_, hσ, hr⟩
    · rw [List.getElem?_set_ne hj] at e
      obtain ⟨w, h2, h3⟩ := r.sl j u e
      refine ⟨w, h2, ?_⟩
      have key : ∀ p', w = .ref p' → u.own = true → p' ≠ p := fun p' e1 ho' e2 => by
        subst e1; subst e2
        exact hj (r.ap i j _ u _ he e ho ho' hσ h2)
      cases u with
      | sh d => exact h3
      | ow ds' =>
        obtain ⟨p', xs', e1, n1, n2, n3, n4, n5⟩ := h3
        exact ⟨p', xs', e1, n1, n2, by rw [upd_ne (key p' e1 rfl)]; exact n3, n4, n5⟩
      | dk ds' =>
        obtain ⟨p', xs', e1, n1, n2, n3, n4⟩ := h3
        exact ⟨p', xs', e1, n1, n2, by rw [upd_ne (key p' e1 rfl)]; exact n3, n4⟩
      | dt ds' =>
        obtain ⟨p', xs', e1, n1, n2, n3, n4⟩ := h3
        exact ⟨p', xs', e1, n1, n2, by rw [upd_ne (key p' e1 rfl)]; exact n3, n4⟩
      | tp => exact h3
  · by_cases hj : i = j
    · subst hj
      rw [hσ] at hq; cases hq
      exact h0
    · rw [List.getElem?_set_ne hj] at e
      exact r.ow j u q e ho' hq
  · by_cases hj : i = j
    · by_cases hk : i = k
      · exact hj.symm.trans hk
      · subst hj
        rw [List.getElem?_set_ne hk] at e'
        rw [hσ] at hq; cases hq
        exact r.ap i k v u' p he e' ho ho2 hσ hq'
    · by_cases hk : i = k
      · subst hk
        rw [List.getElem?_set_ne hj] at e
        rw [hσ] at hq'; cases hq'
        exact r.ap j i u v p e he ho1 ho hq hσ
      · rw [List.getElem?_set_ne hj] at e
        rw [List.getElem?_set_ne hk] at e'
        exact r.ap j k u u' q e e' ho1 ho2 hq hq'
/-- a list's method that changes it: its arguments, the new list -/
def MutS (rm : V → List V → Hp → VK → Prop) (mV : List D → List D → Option (List D)) : Prop := ∀ (g : G) (Hs H : Hp) (τ : Tp) (p : Addr) (xs : List V) (ds : List D) (ws : List V) (as ds' : List D) (Q : VK), Same Hs H → TpOk g Hs H τ → H p = some (.lst xs) → xs.length ≤ sizeLine → Rps Hs xs ds → Rps Hs ws as → mV ds as = some ds' →
  (∀ w xs', xs'.length ≤ sizeLine → Rps Hs xs' ds' → Q w (upd H p (.lst xs'))) → rm (.ref p) ws H Q
def sMut (i : Nat) (mV : List D → List D → Option (List D)) (k : DA) : DS := fun env τ => bnd (k env τ) fun as τ' => match env[i]? with
  | some (some (.ow ds)) => match mV ds as with
    | some ds' => some (.nx (env.set i (some (.ow ds'))), τ')
    | none => none
  | _ => none
theorem mut_run {i : Nat} {rm : V → List V → Hp → VK → Prop} {mV : List D → List D → Option (List D)} {k : DA} (hm : MutS rm mV) : ∀ E σ H, tS (sMut i mV k) E σ H → tDrop (tBM X.K "list" rm (tVar i) (tAs k)) E σ H := fun E σ H ⟨g, Hs, env, τ, o, τ', r, hf, q⟩ => by
  obtain ⟨ds0, τ1, h1, h2⟩ := bnd_eq hf
  split at h2
  · rename_i ds he
    split at h2
    · rename_i ds' hmv
      cases h2
      obtain ⟨w, hw, p, xs, rfl, nT, hn, hH, hl, hr⟩ := r.sl i _ he
      refine ⟨_, hw, .inl ⟨rfl, _, SqL.of hH⟩, g, Hs, env, τ, _, _, r, h1, fun ws Hs1 H1 u1 rs => ?_⟩
      have r1 := r.up u1
      have hH1 := u1.h _ _ hH nT rfl
      have hn1 : Hs1 p = none := by
        cases z : Hs1 p with
        | none => rfl
        | some o => rw [u1.f p o z hn] at hH; cases hH
      refine hm g Hs1 H1 _ p xs ds ws _ ds' _ u1.le u1.tp hH1 hl (hr.to u1.s) rs hmv fun w xs' hl' hr' => ?_
      exact q σ Hs1 _ u1.s (r1.mut he rfl hw nT hn1 ⟨p, xs', rfl, nT, hn1, upd_same, hl', hr'⟩)
    · cases h2
  · cases h2
theorem js_mut {i : Nat} {x m : Str} {id : String} {rm : V → List V → Hp → VK → Prop} {mV : List D → List D → Option (List D)} {a : Expr} {as : List Expr} {k : DA} {p1 p2 p3 : Pos} (slot : Slot "list" m id) (hty : typeOf (.builtin id) = pure (.type "method_descriptor")) (hmt : MtR X id rm) (hm : MutS rm mV) (ha : JAs X (a :: as) k)
    (hN : X.N[i]? = some x := by rfl) (hv : Vis X.env.scope x := by first | exact Or.inl rfl | exact Or.inr (Or.inl rfl) | exact Or.inr (Or.inr rfl)) (hd : (x == ("__debug__" : Str)) = false := by decide) (hcd : (x == ("__classdict__" : Str)) = false := by decide)
    (hbase : attributeBase (.Name x p1) m X.env (eval (.Name x p1) X.env) = eval (.Name x p1) X.env := by rfl)
    (hfew : ((backTo p3 (starEach (a :: as) X.env)).all (fun x => !x.1) && (backToKw p3 (keywordEach [] X.env)).all (fun x => x.1.isSome)
      && decide ((a :: as).length + ([] : List Keyword).length + (if ([] : List Keyword).isEmpty then 0 else 1) < 30)) = true := by rfl)
    (hline : (p2.endLine == p3.line) = true := by rfl) (h1 : starEach (a :: as) X.env = (false, eval a X.env) :: starEach as X.env := by rfl) (hplain : (backTo p3 (starEach as X.env)).any (·.1) = false := by rfl)
    (hs : swapsWith (.Call (.Attribute (.Name x p1) m p2) (a :: as) [] p3) none pos.line X.env = pure false := by rfl) : JS X (.Expr (.Call (.Attribute (.Name x p1) m p2) (a :: as) [] p3) pos) (sMut i mV k) :=
  PSi (ps_expr (pe_bm PySem.F.plainAttrs_list slot hty hmt (pe_var hN hv hd hcd) ha hbase hfew hline h1 hplain) hs) (mut_run hm)
def appV (ds as : List D) : Option (List D) := match as with
  | [y] => if ds.length < 16777216 then some (ds ++ [y]) else none
  | _ => none
theorem app_m : MutS rAppend appV := by
  intro g Hs H τ p xs ds ws as ds' Q le tp hp hl hr hw hm q
  unfold appV at hm
  split at hm
  · split at hm
    · rename_i y hc
      cases hm
      cases hw with
      | cons a b =>
        cases b
        have hl2 : xs.length < sizeLine := by rw [hr.len, line_eq]; exact hc
        exact ⟨p, xs, _, rfl, rfl, hp, hl2, q _ _ (by rw [List.length_append]; exact hl2) (hr.snoc a)⟩
    · cases hm
  · cases hm
def extV (ds as : List D) : Option (List D) := match as with
  | [.list ys] => if ds.length + ys.length ≤ 16777216 then some (ds ++ ys) else none
  | _ => none
theorem ext_m : MutS rExtend extV := by
  intro g Hs H τ p xs ds ws as ds' Q le tp hp hl hr hw hm q
  unfold extV at hm
  split at hm
  · split at hm
    · rename_i y hc
      cases hm
      cases hw with
      | cons a b =>
        cases b
        cases a with
        | lst h1 h2 h3 =>
          rename_i zs
          have hl2 : xs.length + zs.length ≤ sizeLine := by rw [hr.len, h3.len, line_eq]; exact hc
          exact ⟨p, _, xs, zs, rfl, rfl, hp, le _ _ h1, hl2, q _ _ (by rw [List.length_append]; exact hl2) (hr.app h3)⟩
    · cases hm
  · cases hm
def insV (ds as : List D) : Option (List D) := match as with
  | [.int i, y] => if ds.length < 16777216 ∧ 0 ≤ i ∧ i < 16777216 then some (ds.take i.toNat ++ [y] ++ ds.drop i.toNat) else none
  | _ => none
theorem ins_m : MutS (fun x vs H Q => ∃ (l : Addr) (xs : List V) (i : Int) (y : V), x = .ref l ∧ vs = [.int i, y] ∧ H l = some (.lst xs) ∧ xs.length < sizeLine ∧ 0 ≤ i ∧ i < 2 ^ 63 ∧
    Q .non (upd H l (.lst (xs.take i.toNat ++ [y] ++ xs.drop i.toNat)))) insV := by
  intro g Hs H τ p xs ds ws as ds' Q le tp hp hl hr hw hm q
  unfold insV at hm
  split at hm
  · split at hm
    · rename_i i y hc
      cases hm
      cases hw with
      | cons a b =>
        cases a
        cases b with
        | cons a2 b2 =>
          cases b2
          have hl2 : xs.length < sizeLine := by rw [hr.len, line_eq]; exact hc.1
          refine ⟨p, xs, i, _, rfl, rfl, hp, hl2, hc.2.1, by omega, q _ _ ?_ (((hr.take _).snoc a2).app (hr.drop _))⟩
          rw [List.length_append, List.length_append, List.length_take, List.length_drop, List.length_singleton]
          omega
    · cases hm
  · cases hm
def popV (ds as : List D) : Option (List D) := match as with
  | [.int i] => if 0 ≤ i ∧ i < ds.length ∧ i < 16777216 then some (ds.eraseIdx i.toNat) else none
  | _ => none
theorem seqIx_nat {i : Int} {n : Nat} (h0 : 0 ≤ i) (h1 : i < n) : seqIndex? i n = some i.toNat := by
  have h : ixN n i = some i.toNat := by unfold ixN; rw [if_pos h0, if_pos h1]
  exact (ixN_seq h).1
theorem pop_m : MutS rPopAt popV := by
  intro g Hs H τ p xs ds ws as ds' Q le tp hp hl hr hw hm q
  unfold popV at hm
  split at hm
  · split at hm
    · rename_i i hc
      cases hm
      cases hw with
      | cons a b =>
        cases b
        cases a
        have hlen := hr.len
        have hi : i.toNat < xs.length := by omega
        refine ⟨p, xs, i, i.toNat, xs[i.toNat], rfl, rfl, hp, by omega, by omega, seqIx_nat hc.1 (by omega), List.getElem?_eq_getElem hi, q _ _ (Nat.le_trans (len_erase _ _) hl) (hr.erase _)⟩
    · cases hm
  · cases hm
/-- y = x.pop() -/
def sPop (j i : Nat) : DS := fun env τ => match env[i]? with
  | some (some (.ow ds)) => match ds.getLast? with
    | some d => some (.nx ((env.set i (some (.ow ds.dropLast))).set j (some (.sh d))), τ)
    | none => none
  | _ => none
theorem js_pop {i j : Nat} {x y : Str} {p0 p1 p2 p3 : Pos} (hNd : X.N.Nodup)
    (hN : X.N[i]? = some x := by rfl) (hv : Vis X.env.scope x := by first | exact Or.inl rfl | exact Or.inr (Or.inl rfl) | exact Or.inr (Or.inr rfl)) (hd : (x == ("__debug__" : Str)) = false := by decide) (hcd : (x == ("__classdict__" : Str)) = false := by decide)
    (hbase : attributeBase (.Name x p1) "pop" X.env (eval (.Name x p1) X.env) = eval (.Name x p1) X.env := by rfl) (hline : (p2.endLine == p3.line) = true := by rfl)
    (hj : X.N[j]? = some y := by rfl) (hy : Loc X.env.scope y := by first | exact Or.inl rfl | exact Or.inr rfl) (hs : swapsWith (.Call (.Attribute (.Name x p1) "pop" p2) [] [] p3) (some (.Name y p0)) pos.line X.env = pure false := by rfl) (hf : X.fn y = true ∨ X.env.scope.names.lookup y = some .local := by first | exact .inl rfl | exact .inr rfl) :
    JS X (.Assign [.Name y p0] (.Call (.Attribute (.Name x p1) "pop" p2) [] [] p3) pos) (sPop j i) := PSi (ps_set hNd hj hy (pe_bm0 PySem.F.plainAttrs_list PySem.F.slot_list_pop PySem.F.type_list_pop mt_pop (pe_var hN hv hd hcd) hbase hline) hs hf) fun E σ H ⟨g, Hs, env, τ, o, τ', r, hf, q⟩ => by
  unfold sPop at hf
  split at hf
  · rename_i ds he
    split at hf
    · rename_i d hd
      cases hf
      obtain ⟨w, hw, p, xs, rfl, nT, hn, hH, hl, hr⟩ := r.sl i _ he
      rw [List.getLast?_eq_getElem?, ← hr.len] at hd
      obtain ⟨v, hv, rv⟩ := hr.get hd
      refine ⟨_, hw, .inl ⟨rfl, _, SqL.of hH⟩, p, xs, v, rfl, rfl, hH, hv, ?_⟩
      have r1 := r.mut (v' := .ow ds.dropLast) (o' := .lst xs.dropLast) he rfl hw nT hn ⟨p, xs.dropLast, rfl, nT, hn, upd_same, Nat.le_trans (by rw [List.length_dropLast]; omega) hl, hr.dropLast⟩
      exact q _ Hs _ (.refl _) (r1.set j rv)
    · cases hf
  · cases hf
/-! x[k] = e -/
def sPutL (i : Nat) (f k : DD) : DS := fun env τ => bnd (f env τ) fun x τ1 => bnd (k env τ1) fun j τ2 => match env[i]?, j with
  | some (some (.ow ds)), .int n => match ixN ds.length n with
    | some m => some (.nx (env.set i (some (.ow (ds.set m x)))), τ2)
    | none => none
  | _, _ => none
theorem js_putL {i : Nat} {x : Str} {ev ei : Expr} {f k : DD} {p1 p2 : Pos} (he : JD X ev f) (hi : JD X ei k)
    (hN : X.N[i]? = some x := by rfl) (hv : Vis X.env.scope x := by first | exact Or.inl rfl | exact Or.inr (Or.inl rfl) | exact Or.inr (Or.inr rfl)) (hd : (x == ("__debug__" : Str)) = false := by decide) (hcd : (x == ("__classdict__" : Str)) = false := by decide)
    (hs : swapsWithSole [.Subscript (.Name x p1) ei p2] ev pos.line X.env = pure false := by rfl) (hw : swappedStores [.Subscript (.Name x p1) ei p2] ev X.env = pure none := by rfl) (h1 : (assignEach [.Subscript (.Name x p1) ei p2] X.env).map (·.2) = [assign (.Subscript (.Name x p1) ei p2) X.env] := by rfl)
    (ha : ∀ v, assign (.Subscript (.Name x p1) ei p2) X.env v = (do
      let ov ← holding [v] (eval (.Name x p1) X.env)
      let iv ← holding [v, ov] (eval ei X.env)
      standAt p2
      holding [v, ov, iv] (setItem ov iv v)
      release [v, ov, iv] []) := by intro _; rfl) : JS X (.Assign [.Subscript (.Name x p1) ei p2] ev pos) (sPutL i f k) :=
  PSi (ps_asg he (pg_sub (pe_var hN hv hd hcd) hi set_list ha) hs hw h1) fun E σ H ⟨g, Hs, env, τ, o, τ', r, hf, q⟩ => by
    obtain ⟨d, τ1, h1, h2⟩ := bnd_eq hf
    obtain ⟨j, τ2, h3, h4⟩ := bnd_eq h2
    refine ⟨g, Hs, env, τ, d, τ1, r, h1, fun w Hs1 H1 u1 rd => ?_⟩
    split at h4
    · rename_i ds n he
      split at h4
      · rename_i m hm
        cases h4
        obtain ⟨wl, hw, p, xs, rfl, nT, hn, hH, hl, hr⟩ := r.sl i _ he
        refine ⟨_, hw, g, Hs1, env, τ1, _, _, r.up u1, h3, fun w2 Hs2 H2 u2 rj => ?_⟩
        have u := u1.trans u2
        have r2 := r.up u
        cases rj
        have hH2 := u.h _ _ hH nT rfl
        have hn2 : Hs2 p = none := by
          cases z : Hs2 p with
          | none => rfl
          | some o => rw [u.f p o z hn] at hH; cases hH
        refine ⟨p, xs, n, m, rfl, rfl, hH2, by rw [hr.len]; exact hm, ?_⟩
        exact q σ Hs2 _ u.s (r2.mut he rfl hw nT hn2 ⟨p, xs.set m w, rfl, nT, hn2, upd_same, by rw [List.length_set]; exact hl, Rps.set (rd.to u2.s) m (hr.to u.s)⟩)
      · cases h4
    · cases h4
/-- tape[1] = e, tape[2] = e -/
def sTap (i j : Nat) (f : DD) : DS := fun env τ => bnd (f env τ) fun x τ1 => match env[i]?, x with
  | some (some .tp), .int n => match j with
    | 1 => some (.nx env, { τ1 with pos := n })
    | 2 => some (.nx env, { τ1 with cell := n })
    | _ => none
  | _, _ => none
theorem Rel.tape {g : G} {Hs H : Hp} {σ : Sl} {env : Ev} {τ : Tp} (r : Rel g Hs H σ env τ) (a b : Int) : Rel g Hs (upd H g.aT (.lst [.ref g.aS, .int a, .int b])) σ env ⟨τ.sc, a, b⟩ where
  le := fun c o e => by rw [upd_ne (ne_of_none e r.tp.n)]; exact r.le c o e
  tp := ⟨tabs_ne r.tp.tb r.tp.h rfl _, r.tp.tn, upd_same, r.tp.n, r.tp.s, r.tp.l⟩
  ls := r.ls
  bs := fun c o e n m => by rw [upd_ne n]; exact r.bs c o e n m
  bk := fun b h => r.bk b (upd_none h)
  fr := r.fr
  sl := fun i v e => by
    obtain ⟨w, h1, h2⟩ := r.sl i v e
    refine ⟨w, h1, ?_⟩
    cases v with
    | sh d => exact h2
    | ow ds => obtain ⟨p, xs, e1, n1, n2, n3, n4⟩ := h2; exact ⟨p, xs, e1, n1, n2, by rw [upd_ne n1]; exact n3, n4⟩
    | dk ds => obtain ⟨p, xs, e1, n1, n2, n3, n4⟩ := h2; exact ⟨p, xs, e1, n1, n2, by rw [upd_ne n1]; exact n3, n4⟩
    | dt ds => obtain ⟨p, xs, e1, n1, n2, n3, n4⟩ := h2; exact ⟨p, xs, e1, n1, n2, by rw [upd_ne n1]; exact n3, n4⟩
    | tp => exact h2
  ow := r.ow
  ap := r.ap
  ln := r.ln
theorem js_tap {i j jj : Nat} {z : Int} {x : Str} {ev : Expr} {f : DD} {p1 p2 p3 : Pos} (he : JD X ev f) (hz : z = (j : Int) := by rfl)
    (hN : X.N[i]? = some x := by rfl) (hv : Vis X.env.scope x := by first | exact Or.inl rfl | exact Or.inr (Or.inl rfl) | exact Or.inr (Or.inr rfl)) (hd : (x == ("__debug__" : Str)) = false := by decide) (hcd : (x == ("__classdict__" : Str)) = false := by decide)
    (hs : swapsWithSole [.Subscript (.Name x p1) (.Constant (.int z) jj p3) p2] ev pos.line X.env = pure false := by rfl) (hw : swappedStores [.Subscript (.Name x p1) (.Constant (.int z) jj p3) p2] ev X.env = pure none := by rfl) (h1 : (assignEach [.Subscript (.Name x p1) (.Constant (.int z) jj p3) p2] X.env).map (·.2) = [assign (.Subscript (.Name x p1) (.Constant (.int z) jj p3) p2) X.env] := by rfl)
    (ha : ∀ v, assign (.Subscript (.Name x p1) (.Constant (.int z) jj p3) p2) X.env v = (do
      let ov ← holding [v] (eval (.Name x p1) X.env)
      let iv ← holding [v, ov] (eval (.Constant (.int z) jj p3) X.env)
      standAt p2
      holding [v, ov, iv] (setItem ov iv v)
      release [v, ov, iv] []) := by intro _; rfl) : JS X (.Assign [.Subscript (.Name x p1) (.Constant (.int z) jj p3) p2] ev pos) (sTap i j f) :=
  PSi (ps_asg he (pg_sub (pe_var hN hv hd hcd) pe_int set_list ha) hs hw h1) fun E σ H ⟨g, Hs, env, τ, o, τ', r, hf, q⟩ => by
    obtain ⟨d, τ1, h1, h2⟩ := bnd_eq hf
    refine ⟨g, Hs, env, τ, d, τ1, r, h1, fun w Hs1 H1 u1 rd => ?_⟩
    subst hz
    split at h2
    · rename_i n he
      obtain ⟨wl, hw, e1⟩ := r.sl i _ he
      have e1 : wl = .ref g.aT := e1
      subst e1
      cases rd
      have r1 := r.up u1
      refine ⟨_, hw, ?_⟩
      split at h2
      · cases h2
        exact ⟨g.aT, _, _, 1, rfl, rfl, u1.tp.h, rfl, q σ Hs1 _ u1.s (r1.tape n τ1.cell)⟩
      · cases h2
        exact ⟨g.aT, _, _, 2, rfl, rfl, u1.tp.h, rfl, q σ Hs1 _ u1.s (r1.tape τ1.pos n)⟩
      · cases h2
    · cases h2
/-! ### loops -/
def forL (b : DG) (body : DS) : List D → Ev → Tp → Option (Out × Tp)
  | [], env, τ => some (.nx env, τ)
  | x :: xs, env, τ => match b x env with
    | none => none
    | some env1 => bnd (body env1 τ) fun o τ1 => match o with
      | .nx env2 => forL b body xs env2 τ1
      | .ct env2 => forL b body xs env2 τ1
      | .bk env2 => some (.nx env2, τ1)
      | .rt v => some (.rt v, τ1)
def sFor (it : DI) (b : DG) (body : DS) : DS := fun env τ => bnd (it env τ) fun ds τ1 => forL b body ds env τ1
theorem js_for {tg iter : Expr} {sts : List Stmt} {is : List Nat} {it : DI} {b : DG} {body : DS} (hi : JI X tg iter it) (hg : JG X tg is b) (hb : JSs X sts body) (hp : PassesOwn (model X.prog X.w) X.A X.env X.xe := by exact PassesOwn.never) (hc : X.calm = true := by rfl) (hs : ∀ x, foldedSetIterable iter X.env x = pure x := by intro _; rfl) :
    JS X (.For tg iter sts [] pos) (sFor it b body) := PSi (ps_for hp hc hi hg hb hs) fun E σ H ⟨g, Hs, env, τ, o, τ', r, hf, q⟩ => by
  obtain ⟨ds, τ1, h1, h2⟩ := bnd_eq hf
  refine ⟨g, Hs, env, τ, ds, τ1, r, h1, fun J Hs1 H1 u1 hlen wk => ?_⟩
  obtain ⟨Gd, Y, w, wG, wY⟩ := wk
  refine for_it w (fun i σ' H' => ∃ Hs' env' τi, Same Hs1 Hs' ∧ Rel g Hs' H' σ' env' τi ∧ forL b body (ds.drop i) env' τi = some (o, τ'))
    ⟨Hs1, env, τ1, .refl _, r.up u1, by rw [List.drop_zero]; exact h2⟩ (fun i σ' H' _ ⟨Hs', env', τi, s, r', _⟩ => wG Hs' H' τi ⟨s, r'.le, r'.tp⟩) (fun i x σ' H2 H3 hi ⟨Hs2, env2, τi, s2, r2, hc⟩ hy => ?_) fun σ' H' ⟨Hs2, env2, τi, s2, r2, hc⟩ => ?_
  · have hd : ds[i]? = some (ds[i]'hi) := List.getElem?_eq_getElem hi
    generalize ds[i]'hi = d at hd
    obtain ⟨Hs3, u3, rx⟩ := wY Hs2 H2 τi i x H3 d ⟨s2, r2.le, r2.tp⟩ hy hd
    rw [List.drop_eq_getElem_cons hi, show ds[i] = d from Option.some.inj ((List.getElem?_eq_getElem hi).symm.trans hd)] at hc
    have hc' : (match b d env2 with
      | none => none
      | some env1 => bnd (body env1 τi) fun o τ1 => match o with
        | .nx env2 => forL b body (ds.drop (i + 1)) env2 τ1
        | .ct env2 => forL b body (ds.drop (i + 1)) env2 τ1
        | .bk env2 => some (.nx env2, τ1)
        | .rt v => some (.rt v, τ1)) = some (o, τ') := hc
    cases hb : b d env2 with
    | none => rw [hb] at hc'; cases hc'
    | some env1 =>
      rw [hb] at hc'
      obtain ⟨ob, τ4, h5, h6⟩ := bnd_eq hc'
      refine ⟨g, Hs3, env2, τi, d, env1, r2.up u3, rx, hb, fun σ2 r4 _ => ⟨g, Hs3, env1, τi, ob, τ4, r4, h5, ?_⟩⟩
      have s3 : Same Hs1 Hs3 := s2.trans u3.s
      cases ob with
      | nx env5 => exact fun σ5 Hs5 H5 s5 r5 => ⟨Hs5, env5, τ4, s3.trans s5, r5, h6⟩
      | ct env5 => exact fun σ5 Hs5 H5 s5 r5 => ⟨Hs5, env5, τ4, s3.trans s5, r5, h6⟩
      | bk env5 => cases h6; exact q.mono (u1.s.trans s3)
      | rt v => cases h6; exact q.mono (u1.s.trans s3)
  · rw [List.drop_length] at hc
    cases hc
    exact q σ' Hs2 H' (u1.s.trans s2) r2
def whl (c : DT) (body : DS) : Nat → Ev → Tp → Option (Out × Tp)
  | 0, _, _ => none
  | n + 1, env, τ => bnd (c env τ) fun k τ1 => if k = true then bnd (body env τ1) fun o τ2 => match o with
      | .nx env2 => whl c body n env2 τ2
      | .ct env2 => whl c body n env2 τ2
      | .bk env2 => some (.nx env2, τ2)
      | .rt v => some (.rt v, τ2)
    else some (.nx env, τ1)
def sWhl (n : Nat) (c : DT) (body : DS) : DS := fun env τ => whl c body n env τ
theorem js_while (n : Nat) {c : Expr} {sts : List Stmt} {ct : DT} {body : DS} (hc : JT X c ct) (hb : JSs X sts body) (hp : PassesOwn (model X.prog X.w) X.A X.env X.xe := by exact PassesOwn.never) : JS X (.While c sts [] pos) (sWhl n ct body) :=
  PSi (ps_while hp hc hb) fun E σ H ⟨g, Hs, env, τ, o, τ', r, hf, q⟩ => by
    refine ⟨fun m σ' H' => ∃ Hs' env' τi, Same Hs Hs' ∧ Rel g Hs' H' σ' env' τi ∧ whl ct body m env' τi = some (o, τ'), ⟨n, Hs, env, τ, .refl _, r, hf⟩, ?_⟩
    rintro m σ' H' ⟨Hs', env', τi, s, r', hm⟩
    cases m with
    | zero => cases hm
    | succ m =>
      obtain ⟨k, τ1, h1, h2⟩ := bnd_eq (show bnd (ct env' τi) (fun k τ1 => if k = true then bnd (body env' τ1) fun o τ2 => match o with
      | .nx env2 => whl ct body m env2 τ2
      | .ct env2 => whl ct body m env2 τ2
      | .bk env2 => some (.nx env2, τ2)
      | .rt v => some (.rt v, τ2)
    else some (.nx env', τ1)) = some (o, τ') from hm)
      refine ⟨g, Hs', env', τi, k, τ1, r', h1, fun Hs1 H1 u1 => ?_⟩
      cases k with
      | false => cases h2; exact iteF (q σ' Hs1 H1 (s.trans u1.s) (r'.up u1))
      | true =>
        obtain ⟨ob, τ2, h3, h4⟩ := bnd_eq (show bnd (body env' τ1) (fun o τ2 => match o with
      | .nx env2 => whl ct body m env2 τ2
      | .ct env2 => whl ct body m env2 τ2
      | .bk env2 => some (.nx env2, τ2)
      | .rt v => some (.rt v, τ2)) = some (o, τ') from h2)
        refine iteT ⟨fun σ2 H2 => ∃ Hs2 env2 τi2, Same Hs Hs2 ∧ Rel g Hs2 H2 σ2 env2 τi2 ∧ whl ct body m env2 τi2 = some (o, τ'), fun σ2 H2 h => ⟨m, Nat.lt_succ_self m, h⟩, g, Hs1, env', τ1, ob, τ2, r'.up u1, h3, ?_⟩
        have s1 := s.trans u1.s
        cases ob with
        | nx env5 => exact fun σ5 Hs5 H5 s5 r5 => ⟨Hs5, env5, τ2, s1.trans s5, r5, h4⟩
        | ct env5 => exact fun σ5 Hs5 H5 s5 r5 => ⟨Hs5, env5, τ2, s1.trans s5, r5, h4⟩
        | bk env5 => cases h4; exact q.mono s1
        | rt v => cases h4; exact q.mono s1
end
/-! ### defs and their calls -/
abbrev Cal := List Vl → Tp → Option (Vl × Tp)
/-- what a def promises: what F reckons -/
def spF (F : Cal) : Sp := fun vs H Q _ => ∃ g Hs τ as r τ', Same Hs H ∧ TpOk g Hs H τ ∧ Paired (RepV g.aT Hs H) vs as ∧ (∀ v ∈ as, v.own = false) ∧ F as τ = some (r, τ') ∧
  ∀ w Hs' H', Up g Hs H Hs' H' τ' → RepV g.aT Hs' H' w r → (r.own = true → ∀ p, w = .ref p → H p = none) → Q w H'
/-- the parameters' names -/
def argN (fd : FuncData) : List Str := fd.params.args.map (·.arg)
/-- the def of that name keeps F's promise -/
def Has (P : Program) (w : World) (K : PySem.W.Frag) (mg : Str → Option Value) (base : Heap) (k : Nat) (x : Str) (np : Nat) (F : Cal) : Prop :=
  ∃ (f : Addr) (fd : FuncData) (ps : List Str), mg x = some (.ref f) ∧ PySem.W.keepIn K (.ref f) = true ∧ Binds K fd ps [] ∧ ps.length = np ∧ FnOk P w K mg base CX0 k f fd ps (spF F) ∧ (∃ o, K.lookup f = some o ∧ o.data = .func fd) ∧ ps = argN fd
def dDef (F : Cal) (k : DV) : DE := fun env τ => bnd (k env τ) fun as τ1 => F as τ1
section
variable {X : Cx} {x : Str} {p pos : Pos} {e : Expr} {es : List Expr} {k : Nat} {np : Nat} {F : Cal}
theorem jcall {kv : DV} (h : Has X.prog X.w X.K X.mg X.base k x np F) (hr : Room k X.A) (ha : JVs X (e :: es) kv) (hg : Gl X x := by rfl) (hdb : (x == ("__debug__" : Str)) = false := by decide) (he : starEach (e :: es) X.env = (false, eval e X.env) :: starEach es X.env := by rfl) (hpl : (backTo pos (starEach es X.env)).any (·.1) = false := by rfl) :
    JV X (.Call (.Name x p) (e :: es) [] pos) (dDef F kv) := by
  obtain ⟨f, fd, ps, hm, hk, hb, hn, G, _⟩ := h
  refine PEi (pe_call G hr hg hm hk hb .nil pass0 ha hdb he hpl) fun σ H Q ⟨g, Hs, env, τ, v, τ', r, hf, q⟩ => ?_
  obtain ⟨as, τ1, h1, h2⟩ := bnd_eq hf
  refine ⟨g, Hs, env, τ, as, τ1, r, h1, fun ws Hs1 H1 u1 rv no => ?_⟩
  show spF F (ws ++ []) _ _ _
  rw [List.append_nil]
  exact ⟨g, Hs1, τ1, as, v, τ', u1.le, u1.tp, rv, no, h2, fun w Hs2 H2 u2 rw' fr => q w Hs2 H2 (u1.trans u2) rw' fun ho p ep => u1.old (fr ho p ep)⟩
/-- arguments that are lent: the answer is no object -/
def flat : Vl → Bool
  | .sh .none => true | .sh (.bool _) => true | .sh (.int _) => true | .sh (.str _) => true
  | _ => false
def dDefB (F : Cal) (k : DA) : DE := fun env τ => bnd (k env τ) fun as τ1 => bnd (F (as.map .sh) τ1) fun v τ2 => if flat v = true then some (v, τ2) else none
theorem lent {g : G} {H : Hp} {τ : Tp} : ∀ {ws : List V} {ds : List D} {Hs : Hp}, Same Hs H → TpOk g Hs H τ → Rdbs g.aT Hs H ws ds → ∃ Hs', Same Hs Hs' ∧ Same Hs' H ∧ TpOk g Hs' H τ ∧ Rps Hs' ws ds
  | _, _, Hs, le, tp, .nil => ⟨Hs, .refl _, le, tp, .nil⟩
  | _, _, Hs, le, tp, @Paired.cons _ _ _ w d ws ds a b => by
    rcases a with a | ⟨es, p, xs, e1, e2, nT, hp, hl, hr⟩
    · obtain ⟨Hs', s, le', tp', r'⟩ := lent le tp b
      exact ⟨Hs', s, le', tp', .cons (a.to s) r'⟩
    · subst e1; subst e2
      by_cases hn : Hs p = none
      · have sm : Same Hs (upd Hs p (.lst xs)) := same_upd hn
        have le1 : Same (upd Hs p (.lst xs)) H := fun c o e => by
          by_cases hc : c = p
          · subst hc; rw [upd_same] at e; cases e; exact hp
          · rw [upd_ne hc] at e; exact le c o e
        have b1 : Rdbs g.aT (upd Hs p (.lst xs)) H ws ds := Paired.mapP b fun v d z => by
          rcases z with z | ⟨es', p', xs', e1, e2, n', hp', hl', hr'⟩
          · exact .inl (z.to sm)
          · exact .inr ⟨es', p', xs', e1, e2, n', hp', hl', hr'.to sm⟩
        have nS : g.aS ≠ p := fun e => by subst e; rw [tp.s] at hn; cases hn
        obtain ⟨Hs', s, le', tp', r'⟩ := lent le1 ⟨tp.tb, tp.tn_lst hp, tp.h, by rw [upd_ne nT.symm]; exact tp.n, by rw [upd_ne nS]; exact tp.s, tp.l⟩ b1
        exact ⟨Hs', sm.trans s, le', tp', .cons ((Rp.lst upd_same hl (hr.to sm)).to s) r'⟩
      · obtain ⟨o, ho⟩ := Option.ne_none_iff_exists'.mp hn
        have := le p o ho
        rw [hp] at this; cases this
        obtain ⟨Hs', s, le', tp', r'⟩ := lent le tp b
        exact ⟨Hs', s, le', tp', .cons ((Rp.lst ho hl hr).to s) r'⟩
theorem rps_v {aT : Addr} {Hs H : Hp} : ∀ {ws : List V} {ds : List D}, Rps Hs ws ds → Paired (RepV aT Hs H) ws (ds.map .sh)
  | [], [], _ => .nil
  | _ :: _, _ :: _, h => by
    cases h with
    | cons a b => exact .cons a (rps_v b)
  | [], _ :: _, h => by cases h
  | _ :: _, [], h => by cases h
theorem jcallB {kv : DA} (h : Has X.prog X.w X.K X.mg X.base k x np F) (hr : Room k X.A) (ha : JRs X (e :: es) kv) (hg : Gl X x := by rfl) (hdb : (x == ("__debug__" : Str)) = false := by decide) (he : starEach (e :: es) X.env = (false, eval e X.env) :: starEach es X.env := by rfl) (hpl : (backTo pos (starEach es X.env)).any (·.1) = false := by rfl) :
    JV X (.Call (.Name x p) (e :: es) [] pos) (dDefB F kv) := by
  obtain ⟨f, fd, ps, hm, hk, hb, hn, G, _⟩ := h
  refine PEi (pe_call G hr hg hm hk hb .nil pass0 ha hdb he hpl) fun σ H Q ⟨g, Hs, env, τ, v, τ', r, hf, q⟩ => ?_
  obtain ⟨as, τ1, h1, h2⟩ := bnd_eq hf
  obtain ⟨v2, τ2, h3, h4⟩ := bnd_eq h2
  split at h4
  · rename_i hfl
    cases h4
    refine ⟨g, Hs, env, τ, as, τ1, r, h1, fun ws Hs1 H1 u1 rv => ?_⟩
    show spF F (ws ++ []) _ _ _
    rw [List.append_nil]
    obtain ⟨Hs2, s2, le2, tp2, rs⟩ := lent u1.le u1.tp rv
    refine ⟨g, Hs2, τ1, as.map .sh, v, τ', le2, tp2, rps_v rs, fun v hv => ?_, h3, fun w Hs3 H3 u3 rw' fr => ?_⟩
    · obtain ⟨d, _, rfl⟩ := List.mem_map.mp hv
      rfl
    · have u4 : Up g Hs1 H1 Hs1 H3 τ' := ⟨.refl _, u3.h, u3.k, fun b o e n => (by rw [n] at e; cases e), fun b o e => u3.le _ _ (u3.s _ _ (s2 _ _ e)), u3.tp.tb, u1.tp.tn, u3.tp.h, u1.tp.n, u1.tp.s.trans (by
        have e1 := s2 _ _ u1.tp.s
        have e2 := tp2.s
        rw [e1] at e2
        have e3 := u3.s _ _ (e1)
        have e4 := u3.tp.s
        rw [e3] at e4
        exact e4), u3.tp.l⟩
      refine q w Hs1 H3 (u1.trans u4) ?_ fun ho => ?_
      · unfold flat at hfl
        split at hfl
        · cases rw'; exact .non
        · cases rw'; exact .bl _
        · cases rw'; exact .int _
        · cases rw'; exact .str _
        · cases hfl
      · unfold flat at hfl
        split at hfl <;> first | cases ho | cases hfl
  · cases h4
end
def startE (nn : Nat) (as : List Vl) : Ev := as.map some ++ List.replicate (nn - as.length) none
def runF (np nn : Nat) (b : DS) : Cal := fun as τ => if as.length = np then bnd (b (startE nn as) τ) fun o τ' => match o with
    | .rt v => some (v, τ')
    | .nx _ => some (.sh .none, τ')
    | _ => none
  else none
theorem start_rel {g0 : G} {Hs H : Hp} {τ : Tp} {N : List Str} {vs : List V} {as : List Vl} (le : Same Hs H) (tp : TpOk g0 Hs H τ) (rv : Paired (RepV g0.aT Hs H) vs as) (no : ∀ v ∈ as, v.own = false) : Rel ⟨H, Hs, g0.aT, g0.aS⟩ Hs H (L2.start N vs) (startE N.length as) τ := by
  have hl := paired_len rv
  have get : ∀ {vs : List V} {as : List Vl}, Paired (RepV g0.aT Hs H) vs as → ∀ (i : Nat) v, as[i]? = some v → ∃ w, vs[i]? = some w ∧ RepV g0.aT Hs H w v := by
    intro vs as h
    induction h with
    | nil => intro i v e; simp at e
    | cons a _ ih =>
      intro i v e
      cases i with
      | zero => simp at e; subst e; exact ⟨_, rfl, a⟩
      | succ i => obtain ⟨w, h1, h2⟩ := ih i v (by simpa using e); exact ⟨w, by simpa using h1, h2⟩
  have at_ : ∀ (i : Nat) v, (startE N.length as)[i]? = some (some v) → as[i]? = some v := fun i v e => by
    unfold startE at e
    by_cases hi : i < as.length
    · rw [List.getElem?_append_left (by simpa using hi), List.getElem?_map] at e
      cases q : as[i]? with
      | none => rw [q] at e; cases e
      | some a => rw [q] at e; cases e; rfl
    · rw [List.getElem?_append_right (by simpa using hi), List.getElem?_replicate] at e
      split at e <;> cases e
  have nown : ∀ (i : Nat) v, (startE N.length as)[i]? = some (some v) → v.own = false := fun i v e => no v (List.mem_of_getElem? (at_ i v e))
  refine ⟨le, ⟨tp.tb, tp.tn, tp.h, tp.n, tp.s, tp.l⟩, .refl _, fun b o e _ _ => e, fun b h => h, fun b o e n => ?_, fun i v e => ?_, fun i v p e ho => ?_, fun i j v v' p e e' ho => ?_, ?_⟩
  · have n : Hs b = none := n
    rw [n] at e; cases e
  · obtain ⟨w, h1, h2⟩ := get rv i v (at_ i v e)
    refine ⟨w, ?_, h2⟩
    have hi : i < vs.length := (List.getElem?_eq_some_iff.mp h1).1
    unfold L2.start
    rw [List.getElem?_append_left (by simpa using hi), List.getElem?_map, h1]
    rfl
  · rw [nown i v e] at ho; cases ho
  · rw [nown i v e] at ho; cases ho
  · unfold startE L2.start
    rw [List.length_append, List.length_append, List.length_map, List.length_map, List.length_replicate, List.length_replicate, hl]
theorem fn_look {K : PySem.W.Frag} {x : Str} {st : Stmt} {f : Addr} {fd : FuncData} (F : Fun K x x st f fd) : ∃ o, K.lookup f = some o ∧ o.data = .func fd := by
  obtain ⟨oc, od, kV, doc, pm, an, cdv, ct, osl, rfl, lk, hcd⟩ := F.ex
  exact ⟨_, lk, rfl⟩
theorem fn_args {K : PySem.W.Frag} {x : Str} {st : Stmt} {f : Addr} {fd : FuncData} {ps : List Str} (F : Fun K x x st f fd) (h : ps = (defArgs st).args.map (·.arg)) : ps = argN fd := by
  obtain ⟨oc, od, kV, doc, pm, an, cdv, ct, osl, rfl, lk, hcd⟩ := F.ex
  exact h
/-- THE RULE for a def -/
theorem has_def {P : Program} {w : World} {K : PySem.W.Frag} {mg : Str → Option Value} {base : Heap} {x : Str} {st : Stmt} {f : Addr} {fd : FuncData} {N ps : List Str} {k : Nat} {b : DS} (hm : mg x = some (.ref f)) (Fn : Fun K x x st f fd) (S : FnScope N ps (defScope st)) (hb : Binds K fd ps [])
    (hbody : ∀ (cdv : Value) (A : Around) (outer : List PySem.Env) (s : Shared) (H : Hp) (E : XK), Room k (A.deeper (envOfC x (defScope st) s.heap.objs.size f cdv)) → JSs (cxOf CX0 P w K mg base N x (defScope st) f cdv A outer s H E).nox (defBody st) b) (hp : ps = (defArgs st).args.map (·.arg)) : Has P w K mg base (k + 1) x ps.length (runF ps.length N.length b) := by
  refine ⟨f, fd, ps, hm, Fn.kp, hb, rfl, Fn.ok S (fun vs H Q E h => ?_) fun cdv A outer s H vs Q E hr h => ?_, fn_look Fn, fn_args Fn hp⟩
  · obtain ⟨g, Hs, τ, as, r, τ', _, _, rv, _, hf, _⟩ := h
    unfold runF at hf
    split at hf
    · rw [paired_len rv]; assumption
    · cases hf
  · obtain ⟨g, Hs, τ, as, r, τ', le, tp, rv, no, hf, q⟩ := h
    refine ⟨tS b, hbody cdv A outer s H E hr, ?_⟩
    unfold runF at hf
    split at hf
    · obtain ⟨o, τ1, h1, h2⟩ := bnd_eq hf
      refine ⟨⟨H, Hs, g.aT, g.aS⟩, Hs, startE N.length as, τ, o, τ1, start_rel le tp rv no, h1, ?_⟩
      have up : ∀ {Hs' H' : Hp} {σ' : Sl} {env' : Ev}, Rel ⟨H, Hs, g.aT, g.aS⟩ Hs' H' σ' env' τ1 → Up g Hs H Hs' H' τ1 := fun r' => ⟨r'.ls, r'.bs, r'.bk, r'.fr, r'.le, ⟨r'.tp.tb, r'.tp.tn, r'.tp.h, r'.tp.n, r'.tp.s, r'.tp.l⟩⟩
      cases o with
      | rt v => cases h2; exact fun w Hs' H' _ r' rw' fr => q w Hs' H' (up r') rw' fr
      | nx env' => cases h2; exact fun σ' Hs' H' _ r' => q _ Hs' H' (up r') .non fun z => by cases z
      | bk _ => cases h2
      | ct _ => cases h2
    · cases hf
theorem has_none {P : Program} {w : World} {K : PySem.W.Frag} {mg : Str → Option Value} {base : Heap} {x : Str} {st : Stmt} {f : Addr} {fd : FuncData} {ps : List Str} {k : Nat} {F : Cal} (hm : mg x = some (.ref f)) (Fn : Fun K x x st f fd) (hb : Binds K fd ps []) (hF : ∀ as τ, F as τ = none) (hp : ps = (defArgs st).args.map (·.arg)) : Has P w K mg base k x ps.length F :=
  ⟨f, fd, ps, hm, Fn.kp, hb, rfl, ⟨(fun vs H Q E h => by
    obtain ⟨g, Hs, τ, as, r, τ', _, _, _, _, hf, _⟩ := h
    rw [hF] at hf; cases hf), (fun A outer s H args us vs Q E _ _ _ _ h => by
    obtain ⟨g, Hs, τ, as, r, τ', _, _, _, _, hf, _⟩ := h
    rw [hF] at hf; cases hf)⟩, fn_look Fn, fn_args Fn hp⟩
structure Df where
  np : Nat
  nn : Nat
  body : (Nat → Cal) → DS
def callK (tb : Nat → Option Df) : Nat → Nat → Cal
  | 0 => fun _ _ _ => none
  | k + 1 => fun x => match tb x with
    | some d => runF d.np d.nn (d.body (callK tb k))
    | none => fun _ _ => none
theorem callK_succ {tb : Nat → Option Df} {k x : Nat} {d : Df} (h : tb x = some d) : callK tb (k + 1) x = runF d.np d.nn (d.body (callK tb k)) := by
  show (match tb x with
    | some d => runF d.np d.nn (d.body (callK tb k))
    | none => fun _ _ => none) = _
  rw [h]
end Pv
namespace Pv
open PySem L2 PySem.Spec PyProof.Rows
variable [Tbl]
def keyD : D → Option Key
  | .int i => some (.inl i)
  | .str x => some (.inr x)
  | _ => none
def keysD : List D → Option (List Key)
  | [] => some []
  | d :: ds => match keyD d, keysD ds with
    | some k, some ks => some (k :: ks)
    | _, _ => none
def keyT : D → Option (List Key)
  | .tuple ds => keysD ds
  | _ => none
def dKey : Key → D
  | .inl i => .int i
  | .inr x => .str x
theorem keyD_v {H : Hp} {w : V} {d : D} {k : Key} (e : keyD d = some k) (r : Rp H w d) : w = kV k := by
  unfold keyD at e
  split at e
  · cases e; cases r; rfl
  · cases e; cases r; rfl
  · cases e
theorem keyD_dKey {d : D} {k : Key} (e : keyD d = some k) : d = dKey k := by
  unfold keyD at e
  split at e
  · cases e; rfl
  · cases e; rfl
  · cases e
theorem keysD_v {H : Hp} : ∀ {ds : List D} {ws : List V} {ks : List Key}, keysD ds = some ks → Rps H ws ds → ws = ks.map kV
  | [], _, _, e, r => by cases e; cases r; rfl
  | d :: ds, _, ks, e, r => by
    unfold keysD at e
    split at e
    · rename_i k ks' h1 h2
      cases e
      cases r with
      | cons a b => rw [keyD_v h1 a, keysD_v h2 b]; rfl
    · cases e
theorem keysD_cm : ∀ {ds : List D} {ks : List Key}, keysD ds = some ks → cmL ds = false
  | [], _, _ => rfl
  | d :: ds, ks, e => by
    unfold keysD at e
    split at e
    · rename_i k ks' h1 h2
      have : isPr d = false := by
        unfold keyD at h1
        split at h1
        · rfl
        · rfl
        · cases h1
      show (!false && ((d :: ds).all isPr)) = false
      rw [List.all_cons, this]; rfl
    · cases e
theorem keyT_v {H : Hp} {w : V} {d : D} {k : List Key} (e : keyT d = some k) (r : Rp H w d) : ∃ b, w = .ref b ∧ H b = some (.tup (k.map kV)) := by
  unfold keyT at e
  split at e
  · cases r with
    | tup h1 h2 h3 => exact ⟨_, rfl, by rw [h1.raw (keysD_cm e), keysD_v e h3]⟩
  · cases e
section
variable {κ : Type} [DecidableEq κ]
def valK (kvs : List (κ × D)) (k : κ) : Option D := (kvs.find? fun kv => decide (kv.1 = k)).map (·.2)
def hasK (kvs : List (κ × D)) (k : κ) : Bool := kvs.any fun kv => decide (kv.1 = k)
def putD (kvs : List (κ × D)) (k : κ) (d : D) : List (κ × D) := if hasK kvs k = true then kvs.map (fun kv => if kv.1 = k then (kv.1, d) else kv) else kvs ++ [(k, d)]
theorem Kps.val {H : Hp} {k : κ} : ∀ {a : List (κ × V)} {b : List (κ × D)}, Kps H a b → (valV a k = none ∧ valK b k = none) ∨ ∃ v d, valV a k = some v ∧ valK b k = some d ∧ Rp H v d
  | _, _, .nil => .inl ⟨rfl, rfl⟩
  | _, _, @Paired.cons _ _ _ p q a b h t => by
    by_cases e : p.1 = k
    · refine .inr ⟨p.2, q.2, valV_pos e, ?_, h.2⟩
      have e2 : q.1 = k := h.1.symm.trans e
      simp [valK, List.find?_cons, e2]
    · have e2 : ¬ q.1 = k := fun z => e (h.1.trans z)
      have e3 : valK (q :: b) k = valK b k := by simp [valK, List.find?_cons, e2]
      rw [valV_neg e, e3]
      exact Kps.val t
theorem Kps.any {H : Hp} {k : κ} : ∀ {a : List (κ × V)} {b : List (κ × D)}, Kps H a b → (a.any fun kv => decide (kv.1 = k)) = hasK b k
  | _, _, .nil => rfl
  | _, _, @Paired.cons _ _ _ p q a b h t => by
    have := Kps.any (k := k) t
    unfold hasK at this ⊢
    rw [List.any_cons, List.any_cons, this, h.1]
theorem Kps.repl {H : Hp} {k : κ} {v : V} {d : D} (r : Rp H v d) : ∀ {a : List (κ × V)} {b : List (κ × D)}, Kps H a b → Kps H (a.map fun kv => if kv.1 = k then (kv.1, v) else kv) (b.map fun kv => if kv.1 = k then (kv.1, d) else kv)
  | _, _, .nil => .nil
  | _, _, @Paired.cons _ _ _ p q a b h t => by
    refine .cons ?_ (Kps.repl r t)
    show (if p.1 = k then (p.1, v) else p).1 = (if q.1 = k then (q.1, d) else q).1 ∧ Rp H (if p.1 = k then (p.1, v) else p).2 (if q.1 = k then (q.1, d) else q).2
    have h1 : p.1 = q.1 := h.1
    by_cases e : p.1 = k
    · rw [if_pos e, if_pos (h1.symm.trans e)]; exact ⟨h1, r⟩
    · rw [if_neg e, if_neg (fun z => e (h1.trans z))]; exact h
theorem Kps.app {H : Hp} : ∀ {a a' : List (κ × V)} {b b' : List (κ × D)}, Kps H a b → Kps H a' b' → Kps H (a ++ a') (b ++ b')
  | _, _, _, _, .nil, h => h
  | _, _, _, _, .cons h t, k => .cons h (Kps.app t k)
theorem Kps.put {H : Hp} {a : List (κ × V)} {b : List (κ × D)} {v : V} {d : D} (h : Kps H a b) (k : κ) (r : Rp H v d) : Kps H (putK a k v) (putD b k d) := by
  unfold putK putD
  rw [h.any]
  split
  · exact h.repl r
  · exact h.app (.cons ⟨rfl, r⟩ .nil)
theorem Kps.len {H : Hp} {a : List (κ × V)} {b : List (κ × D)} (h : Kps H a b) : a.length = b.length := paired_len h
end
/-! ### a dict that is read -/
def tM (f : DE) : TE := fun σ H Q => ∃ g Hs env τ v τ', Rel g Hs H σ env τ ∧ f env τ = some (v, τ') ∧ ∀ w Hs' H', Up g Hs H Hs' H' τ' → RepV g.aT Hs' H' w v → Q w H'
abbrev JM (X : Cx) (e : Expr) (f : DE) : Prop := PE X e (tM f)
def dMb (i : Nat) : DE := fun env τ => match env[i]? with
  | some (some v) => some (v, τ)
  | _ => none
section
variable {X : Cx} {e : Expr} {pos : Pos}
theorem jm_v {f : DE} (h : JV X e f) : JM X e f := PEi h fun σ H Q ⟨g, Hs, env, τ, v, τ', r, hf, q⟩ => ⟨g, Hs, env, τ, v, τ', r, hf, fun w Hs' H' u rv _ => q w Hs' H' u rv⟩
theorem jmb (i : Nat) {x : Str} (hN : X.N[i]? = some x := by rfl) (hv : Vis X.env.scope x := by first | exact Or.inl rfl | exact Or.inr (Or.inl rfl) | exact Or.inr (Or.inr rfl)) (hd : (x == ("__debug__" : Str)) = false := by decide) (hcd : (x == ("__classdict__" : Str)) = false := by decide) : JM X (.Name x pos) (dMb i) :=
  PEi (pe_var (i := i) hN hv hd hcd) fun σ H Q ⟨g, Hs, env, τ, d, τ', r, hf, q⟩ => by
    unfold dMb at hf
    split at hf
    · rename_i v he
      cases hf
      obtain ⟨w, h1, h2⟩ := r.sl i _ he
      exact ⟨w, h1, q w Hs H (.refl r.le r.tp) h2⟩
    · cases hf
end
/-- what the dict holds at the key -/
def getM (v : Vl) (d : D) : Option (Option D) := match v with
  | .dk kvs => (keyD d).map fun k => valK kvs k
  | .dt kvs => (keyT d).map fun k => valK kvs k
  | _ => none
theorem get_m {aT : Addr} {Hs H : Hp} {w y : V} {v : Vl} {d : D} {o : Option D} (le : Same Hs H) (rv : RepV aT Hs H w v) (rd : Rp Hs y d) (e : getM v d = some o) : ∃ a r, w = .ref a ∧ DGet H a y r ∧ ((r = none ∧ o = none) ∨ ∃ z x, r = some z ∧ o = some x ∧ Rp Hs z x) := by
  unfold getM at e
  split at e
  · rename_i kvs
    obtain ⟨p, kv, rfl, _, _, hp, hr⟩ := rv
    cases ek : keyD d with
    | none => rw [ek] at e; cases e
    | some k =>
      rw [ek] at e
      cases e
      rw [keyD_v ek rd]
      refine ⟨p, _, rfl, .k hp, ?_⟩
      rcases hr.val (k := k) with ⟨h1, h2⟩ | ⟨z, x, h1, h2, h3⟩
      · exact .inl ⟨h1, h2⟩
      · exact .inr ⟨z, x, h1, h2, h3⟩
  · rename_i kvs
    obtain ⟨p, kv, rfl, _, _, hp, hr⟩ := rv
    cases ek : keyT d with
    | none => rw [ek] at e; cases e
    | some k =>
      rw [ek] at e
      cases e
      obtain ⟨b, rfl, hb⟩ := keyT_v ek rd
      refine ⟨p, _, rfl, .t hp (le _ _ hb), ?_⟩
      rcases hr.val (k := k) with ⟨h1, h2⟩ | ⟨z, x, h1, h2, h3⟩
      · exact .inl ⟨h1, h2⟩
      · exact .inr ⟨z, x, h1, h2, h3⟩
  · cases e
def dGet (m : DE) (k : DD) : DD := fun env τ => bnd (m env τ) fun v τ1 => bnd (k env τ1) fun d τ2 => match getM v d with
  | some (some x) => some (x, τ2)
  | _ => none
def dHas (neg : Bool) (k : DD) (m : DE) : DD := fun env τ => bnd (k env τ) fun d τ1 => bnd (m env τ1) fun v τ2 => match getM v d with
  | some o => some (.bool (o.isSome != neg), τ2)
  | none => none
section
variable {X : Cx} {o i : Expr} {pos : Pos} {m : DE} {k : DD}
theorem jdget (hu : X.A.units + 64 < cLine) (ho : JM X o m) (hi : JD X i k) (hs : NoSl i := by intro _ _; rfl) : JD X (.Subscript o i pos) (dGet m k) :=
  PEi (pe_dget (by omega) ho hi hs) fun σ H Q ⟨g, Hs, env, τ, d, τ', r, hf, q⟩ => by
    obtain ⟨v, τ1, h1, h2⟩ := bnd_eq hf
    obtain ⟨y, τ2, h3, h4⟩ := bnd_eq h2
    split at h4
    · rename_i x hg
      cases h4
      refine ⟨g, Hs, env, τ, v, τ1, r, h1, fun w Hs1 H1 u1 rv => ⟨g, Hs1, env, τ1, y, _, r.up u1, h3, fun w2 Hs2 H2 u2 ry => ?_⟩⟩
      obtain ⟨a, z, rfl, dg, hz⟩ := get_m u2.le (RepV.up u2 rv) ry hg
      rcases hz with ⟨_, hz⟩ | ⟨z', x', rfl, hx, rz⟩
      · cases hz
      · cases hx
        exact ⟨a, z', rfl, dg, q z' Hs2 H2 (u1.trans u2) rz⟩
    · cases h4
theorem din_run : ∀ σ H Q, tD (dHas false k m) σ H Q → tDIn (tD k) (tM m) σ H Q := fun σ H Q ⟨g, Hs, env, τ, d, τ', r, hf, q⟩ => by
  obtain ⟨y, τ1, h1, h2⟩ := bnd_eq hf
  obtain ⟨v, τ2, h3, h4⟩ := bnd_eq h2
  split at h4
  · rename_i x hg
    cases h4
    refine ⟨g, Hs, env, τ, y, τ1, r, h1, fun w Hs1 H1 u1 ry => ⟨g, Hs1, env, τ1, v, _, r.up u1, h3, fun w2 Hs2 H2 u2 rv => ?_⟩⟩
    obtain ⟨a, z, rfl, dg, hz⟩ := get_m u2.le rv (ry.to u2.s) hg
    refine ⟨a, z, rfl, dg, ?_⟩
    rcases hz with ⟨rfl, rfl⟩ | ⟨z', x', rfl, rfl, rz⟩
    · exact q _ Hs2 H2 (u1.trans u2) (.bl false)
    · exact q _ Hs2 H2 (u1.trans u2) (.bl true)
  · cases h4
theorem dni_run : ∀ σ H Q, tD (dHas true k m) σ H Q → tDNotIn (tD k) (tM m) σ H Q := fun σ H Q ⟨g, Hs, env, τ, d, τ', r, hf, q⟩ => by
  obtain ⟨y, τ1, h1, h2⟩ := bnd_eq hf
  obtain ⟨v, τ2, h3, h4⟩ := bnd_eq h2
  split at h4
  · rename_i x hg
    cases h4
    refine ⟨g, Hs, env, τ, y, τ1, r, h1, fun w Hs1 H1 u1 ry => ⟨g, Hs1, env, τ1, v, _, r.up u1, h3, fun w2 Hs2 H2 u2 rv => ?_⟩⟩
    obtain ⟨a, z, rfl, dg, hz⟩ := get_m u2.le rv (ry.to u2.s) hg
    refine ⟨a, z, rfl, dg, ?_⟩
    rcases hz with ⟨rfl, rfl⟩ | ⟨z', x', rfl, rfl, rz⟩
    · exact q _ Hs2 H2 (u1.trans u2) (.bl true)
    · exact q _ Hs2 H2 (u1.trans u2) (.bl false)
  · cases h4
theorem jdin (hu : X.A.units + 64 < cLine) (hi : JD X i k) (ho : JM X o m) (hm : behindInMarks .In o = false := by rfl) : JD X (.Compare i [.In] [o] pos) (dHas false k m) := PEi (pe_cmp (pc_din (by omega) hi ho) hm) din_run
theorem jdni (hu : X.A.units + 64 < cLine) (hi : JD X i k) (ho : JM X o m) (hm : behindInMarks .NotIn o = false := by rfl) : JD X (.Compare i [.NotIn] [o] pos) (dHas true k m) := PEi (pe_cmp (pc_dnotin (by omega) hi ho) hm) dni_run
/-- as tests -/
theorem tdB {op : CmpOp} {t : TE} {f : DD} (h : PC X op i o t) (hm : behindInMarks op o = false) (hr : ∀ σ H Q, tD f σ H Q → t σ H Q) : JT X (.Compare i [op] [o] pos) (tstD f) :=
  PTi (pt_cmp h hm) fun σ H Q ⟨g, Hs, env, τ, b, τ', r0, hf, q⟩ => by
    obtain ⟨x, τ1, h1, h2⟩ := bnd_eq hf
    refine hr σ H _ ⟨g, Hs, env, τ, x, τ1, r0, h1, fun w Hs1 H1 u1 r1 => ?_⟩
    split at h2
    · cases h2
      cases r1
      exact ⟨_, rfl, q Hs1 H1 u1⟩
    · cases h2
theorem tdin (hu : X.A.units + 64 < cLine) (hi : JD X i k) (ho : JM X o m) (hm : behindInMarks .In o = false := by rfl) : JT X (.Compare i [.In] [o] pos) (tstD (dHas false k m)) := tdB (pc_din (by omega) hi ho) hm din_run
theorem tdni (hu : X.A.units + 64 < cLine) (hi : JD X i k) (ho : JM X o m) (hm : behindInMarks .NotIn o = false := by rfl) : JT X (.Compare i [.NotIn] [o] pos) (tstD (dHas true k m)) := tdB (pc_dnotin (by omega) hi ho) hm dni_run
end
/-! ### d[k] = e, d[k] += e -/
def putM (v : Vl) (d x : D) : Option Vl := match v with
  | .dk kvs => match keyD d with
    | some k => if kvs.length < 16777216 then some (.dk (putD kvs k x)) else none
    | none => none
  | .dt kvs => match keyT d with
    | some k => if kvs.length < 16777216 then some (.dt (putD kvs k x)) else none
    | none => none
  | _ => none
theorem put_m {g : G} {Hs H : Hp} {σ : Sl} {env : Ev} {τ : Tp} {i : Nat} {v v' : Vl} {d x : D} {w y z : V} (r : Rel g Hs H σ env τ) (he : env[i]? = some (some v)) (hw : σ[i]? = some (some w)) (rd : Rp Hs y d) (rx : Rp Hs z x) (e : putM v d x = some v') :
    ∃ a H', w = .ref a ∧ DPut H a y z H' ∧ Rel g Hs H' σ (env.set i (some v')) τ := by
  obtain ⟨w', hw', rv⟩ := r.sl i v he
  rw [hw] at hw'; cases hw'
  unfold putM at e
  split at e
  · rename_i kvs
    split at e
    · rename_i k ek
      split at e
      · rename_i hc
        cases e
        obtain ⟨p, kv, rfl, nT, hn, hp, hr⟩ := rv
        rw [keyD_v ek rd]
        exact ⟨p, _, rfl, .k hp (by rw [hr.len, line_eq]; exact hc), r.mut he rfl hw nT hn ⟨p, _, rfl, nT, hn, upd_same, hr.put k rx⟩⟩
      · cases e
    · cases e
  · rename_i kvs
    split at e
    · rename_i k ek
      split at e
      · rename_i hc
        cases e
        obtain ⟨p, kv, rfl, nT, hn, hp, hr⟩ := rv
        obtain ⟨b, rfl, hb⟩ := keyT_v ek rd
        exact ⟨p, _, rfl, .t hp (r.le _ _ hb) (by rw [hr.len, line_eq]; exact hc), r.mut he rfl hw nT hn ⟨p, _, rfl, nT, hn, upd_same, hr.put k rx⟩⟩
      · cases e
    · cases e
  · cases e
def sPutM (i : Nat) (f k : DD) : DS := fun env τ => bnd (f env τ) fun x τ1 => bnd (k env τ1) fun d τ2 => match env[i]? with
  | some (some v) => match putM v d x with
    | some v' => some (.nx (env.set i (some v')), τ2)
    | none => none
  | _ => none
def sAugM (i : Nat) (k f : DD) (opV : D → D → Option D) : DS := fun env τ => bnd (k env τ) fun d τ1 => match env[i]? with
  | some (some v) => match getM v d with
    | some (some x) => bnd (f env τ1) fun y τ2 => match opV x y with
      | some z => match putM v d z with
        | some v' => some (.nx (env.set i (some v')), τ2)
        | none => none
      | none => none
    | _ => none
  | _ => none
def addI (x y : D) : Option D := match x, y with
  | .int a, .int b => some (.int (a + b))
  | _, _ => none
section
variable {X : Cx} {x : Str} {i : Nat} {ek ev : Expr} {p1 p2 pos : Pos} {f k : DD}
theorem js_putM (hu : X.A.units + 64 < cLine) (hi : JD X ek k) (hv : JD X ev f) (hN : X.N[i]? = some x := by rfl) (hvis : Vis X.env.scope x := by first | exact Or.inl rfl | exact Or.inr (Or.inl rfl) | exact Or.inr (Or.inr rfl)) (hd : (x == ("__debug__" : Str)) = false := by decide) (hcd : (x == ("__classdict__" : Str)) = false := by decide)
    (hs : swapsWith ev (some (.Subscript (.Name x p1) ek p2)) pos.line X.env = pure false := by rfl) : JS X (.Assign [.Subscript (.Name x p1) ek p2] ev pos) (sPutM i f k) :=
  PSi (ps_dput (by omega) (pe_var hN hvis hd hcd) hi hv hs) fun E σ H ⟨g, Hs, env, τ, o, τ', r, hf, q⟩ => by
    obtain ⟨x, τ1, h1, h2⟩ := bnd_eq hf
    obtain ⟨d, τ2, h3, h4⟩ := bnd_eq h2
    split at h4
    · rename_i v he
      split at h4
      · rename_i v' hp
        cases h4
        refine ⟨g, Hs, env, τ, x, τ1, r, h1, fun w Hs1 H1 u1 rx => ?_⟩
        obtain ⟨wd, hw, _⟩ := r.sl i v he
        refine ⟨wd, hw, g, Hs1, env, τ1, d, _, r.up u1, h3, fun w2 Hs2 H2 u2 rd => ?_⟩
        obtain ⟨a, H', rfl, dp, r'⟩ := put_m ((r.up u1).up u2) he hw rd (rx.to u2.s) hp
        exact ⟨a, H', rfl, dp, q σ Hs2 H' (u1.trans u2).s r'⟩
      · cases h4
    · cases h4
theorem js_augM (hu : X.A.units + 64 < cLine) (hi : JD X ek k) (hv : JD X ev f) (hN : X.N[i]? = some x := by rfl) (hvis : Vis X.env.scope x := by first | exact Or.inl rfl | exact Or.inr (Or.inl rfl) | exact Or.inr (Or.inr rfl)) (hd : (x == ("__debug__" : Str)) = false := by decide) (hcd : (x == ("__classdict__" : Str)) = false := by decide)
    (ha : ∀ ov iv new, augStore ek ov iv new = (do holding [new, ov, iv] (setItem ov iv new); release [new, ov, iv] []; pure .next) := by intro _ _ _; rfl) : JS X (.AugAssign (.Subscript (.Name x p1) ek p2) .Add ev pos) (sAugM i k f addI) :=
  PSi (ps_daug (by omega) (pe_var hN hvis hd hcd) hi hv in_add ha) fun E σ H ⟨g, Hs, env, τ, o, τ', r, hf, q⟩ => by
    obtain ⟨d, τ1, h1, h2⟩ := bnd_eq hf
    split at h2
    · rename_i v he
      split at h2
      · rename_i x hg
        obtain ⟨y, τ2, h3, h4⟩ := bnd_eq h2
        split at h4
        · rename_i z hz
          split at h4
          · rename_i v' hp
            cases h4
            obtain ⟨wd, hw, rv⟩ := r.sl i v he
            refine ⟨wd, hw, g, Hs, env, τ, d, τ1, r, h1, fun w Hs1 H1 u1 rd => ?_⟩
            obtain ⟨a, z', rfl, dg, hz'⟩ := get_m u1.le (RepV.up u1 rv) rd hg
            rcases hz' with ⟨_, hz'⟩ | ⟨c, x', rfl, hx, rz⟩
            · cases hz'
            cases hx
            refine ⟨a, c, rfl, dg, g, Hs1, env, τ1, y, _, r.up u1, h3, fun w2 Hs2 H2 u2 ry => ?_⟩
            unfold addI at hz
            split at hz
            · cases hz
              cases rz
              cases ry
              refine ⟨_, _, rfl, rfl, ?_⟩
              obtain ⟨a', H', e', dp, r'⟩ := put_m ((r.up u1).up u2) he hw (rd.to u2.s) (.int _) hp
              cases e'
              exact ⟨H', dp, q σ Hs2 H' (u1.trans u2).s r'⟩
            · cases hz
          · cases h4
        · cases h4
      · cases h2
    · cases h2
end
end Pv
namespace Pv
open PySem L2 PySem.Spec PyProof.Rows
variable [Tbl]
def dNewK : DE := fun _ τ => some (.dk [], τ)
def dNewT : DE := fun _ τ => some (.dt [], τ)
def dDisp1 (k f : DD) : DE := fun env τ => bnd (k env τ) fun d τ1 => bnd (f env τ1) fun x τ2 => match keyD d with
  | some c => some (.dk [(c, x)], τ2)
  | none => none
section
variable {X : Cx} {pos : Pos}
theorem jnewK : JV X (.Dict [] [] pos) dNewK := PEi pe_dnewK fun σ H Q ⟨g, Hs, env, τ, d, τ', r, hf, q⟩ => by
  cases hf
  intro p hp
  have u := Up.refl r.le r.tp
  exact q _ Hs _ (u.mk1 hp) ⟨p, [], rfl, u.neT hp, u.freeS hp, upd_same, .nil⟩ fun _ p' e => by cases e; exact hp
theorem jnewT : JV X (.Dict [] [] pos) dNewT := PEi pe_dnewT fun σ H Q ⟨g, Hs, env, τ, d, τ', r, hf, q⟩ => by
  cases hf
  intro p hp
  have u := Up.refl r.le r.tp
  exact q _ Hs _ (u.mk1 hp) ⟨p, [], rfl, u.neT hp, u.freeS hp, upd_same, .nil⟩ fun _ p' e => by cases e; exact hp
theorem jdisp1 {k v : Expr} {kd fd : DD} (hk : JD X k kd) (hv : JD X v fd) : JV X (.Dict [some k] [v] pos) (dDisp1 kd fd) :=
  PEi (pe_disp (pps_cons hk hv pps_nil) rfl rfl (by simp) (by simp)) fun σ H Q ⟨g, Hs, env, τ, o, τ', r, hf, q⟩ => by
    obtain ⟨d, τ1, h1, h2⟩ := bnd_eq hf
    obtain ⟨x, τ2, h3, h4⟩ := bnd_eq h2
    split at h4
    · rename_i c hc
      cases h4
      intro p hp
      have u0 := Up.refl r.le r.tp
      have nT := u0.neT hp
      have um := u0.mk1 (o := .dK []) hp
      refine ⟨g, Hs, env, τ, d, τ1, r.up um, h1, fun w Hs1 H1 u1 rd => ⟨g, Hs1, env, τ1, x, τ', (r.up um).up u1, h3, fun w2 Hs2 H2 u2 rx => ?_⟩⟩
      have ut := u1.trans u2
      have hp2 := ut.h _ _ upd_same nT rfl
      have hn2 : Hs2 p = none := by
        cases z : Hs2 p with
        | none => rfl
        | some o =>
          have := ut.f p o z (u0.freeS hp)
          rw [upd_same] at this; cases this
      refine ⟨hp2, [(c, w2)], by rw [keyD_v hc rd]; rfl, by simp, ?_⟩
      refine q _ Hs2 _ ((um.trans ut).put hp hn2 nT hp2 rfl) ⟨p, _, rfl, nT, hn2, upd_same, ?_⟩ fun _ p' e => by cases e; exact hp
      exact .cons ⟨rfl, rx⟩ .nil
    · cases h4
end
/-! ### dict comprehensions, the keys ints and texts -/
section
variable {J : It} {n : Nat} {Gd : Hp → Prop} {Y : Nat → Hp → V → Hp → Prop}
theorem dc_it (w : Walk J n Gd Y) {g : TG} {tt : TT} {tk tv : TE} {vs : List Nat} {σ : Sl} {H1 : Hp} {D : Addr} {Qd : Hp → Prop} (Pi : Nat → Hp → Prop) (h0 : Pi 0 (upd H1 D (.dK []))) (hG : ∀ i H, i ≤ n → Pi i H → Gd H)
    (hs : ∀ i x H H', i < n → Pi i H → Y i H x H' → g x (wipe σ vs) H' fun σ2 H2 => wipe σ2 vs = wipe σ vs ∧ tt σ2 H2 fun b H3 =>
      if b = true then tk σ2 H3 fun y H4 => tv σ2 H4 fun z H5 => ∃ kvs k, y = kV k ∧ H5 D = some (.dK kvs) ∧ kvs.length < sizeLine ∧ Pi (i + 1) (upd H5 D (.dK (putK kvs k z))) else Pi (i + 1) H3) (hd : ∀ H, Pi n H → Qd H) :
    ∃ W : Nat → Nat → Hp → Prop, (∃ m, W 0 m (upd H1 D (.dK []))) ∧ ∀ i m H, W i m H →
      (J.stop i H ∧ Qd H) ∨ (J.go i H ∧ ∃ Nx : Hp → Prop, (∀ H', Nx H' → ∃ m', m' < m ∧ W (i + 1) m' H') ∧ ∀ x H', J.yld i H x H' → g x (wipe σ vs) H' fun σ2 H2 => wipe σ2 vs = wipe σ vs ∧ tt σ2 H2 fun b H3 =>
        if b = true then tk σ2 H3 fun y H4 => tv σ2 H4 fun z H5 => ∃ kvs k, y = kV k ∧ H5 D = some (.dK kvs) ∧ kvs.length < sizeLine ∧ Nx (upd H5 D (.dK (putK kvs k z))) else Nx H3) := by
  refine ⟨fun i m H => m + i = n ∧ Pi i H, ⟨n, rfl, h0⟩, ?_⟩
  rintro i m H ⟨hm, hp⟩
  have hg := hG i H (by omega) hp
  rcases Nat.lt_or_ge i n with hlt | hge
  · exact .inr ⟨w.goes i H hlt hg, Pi (i + 1), fun H' p' => ⟨m - 1, by omega, by omega, p'⟩, fun x H' y => hs i x H H' hlt hp (w.yields i H x H' hlt hg y)⟩
  · have e : i = n := by omega
    subst e
    exact .inl ⟨w.stops H hg, hd H hp⟩
end
def dcL (b : DG) (c : DT) (k e : DD) : List D → List (Key × D) → Ev → Tp → Option (List (Key × D) × Tp)
  | [], acc, _, τ => some (acc, τ)
  | x :: xs, acc, env, τ => match b x env with
    | none => none
    | some env1 => bnd (c env1 τ) fun t τ1 => if t = true then bnd (k env1 τ1) fun d τ2 => bnd (e env1 τ2) fun y τ3 => match keyD d with
        | some kk => dcL b c k e xs (putD acc kk y) env τ3
        | none => none
      else dcL b c k e xs acc env τ1
def dDc (vs : List Nat) (it : DI) (b : DG) (c : DT) (k e : DD) : DE := fun env τ => bnd (it env τ) fun ds τ1 => bnd (dcL b c k e ds [] (wipeE env vs) τ1) fun kvs τ2 => some (.dk kvs, τ2)
theorem putD_le {κ : Type} [DecidableEq κ] (kvs : List (κ × D)) (k : κ) (d : D) : (putD kvs k d).length ≤ kvs.length + 1 := by
  unfold putD
  split
  · rw [List.length_map]; omega
  · rw [List.length_append]; show kvs.length + 1 ≤ _; omega
theorem dc_run {vs is : List Nat} {it : DI} {b : DG} {c : DT} {k e : DD} (his : ∀ i ∈ is, i ∈ vs) : ∀ σ H Q, tV (dDc vs it b c k e) σ H Q → tDc (tIE it) (tG is b) (tB' c) (tD k) (tD e) vs σ H Q := fun σ H Q ⟨g, Hs, env, τ, v, τ', r, hf, q⟩ => by
  obtain ⟨ds, τ1, h1, h2⟩ := bnd_eq hf
  obtain ⟨res, τ2, h3, h4⟩ := bnd_eq h2
  cases h4
  refine ⟨g, Hs, env, τ, ds, τ1, r, h1, fun J Hs1 H1 u1 hlen wk A hA => ?_⟩
  obtain ⟨Gd, Y, w, wG, wY⟩ := wk
  have nT := u1.neT hA
  have hA1 := u1.freeS hA
  have r1 := (r.up u1).wipe vs
  have uz : Up g Hs1 H1 Hs1 H1 τ1 := .refl u1.le u1.tp
  have stay : ∀ {Hs2 H2 Hs3 H3 : Hp} {τ3 : Tp} {o : HO}, Up g Hs2 H2 Hs3 H3 τ3 → H2 A = some o → Hs2 A = none → nt o = true → H3 A = some o ∧ Hs3 A = none := fun {Hs2 H2 Hs3 H3 τ3 o} u h hn nto => ⟨u.h _ _ h nT nto, by
    cases z : Hs3 A with
    | none => rfl
    | some o => rw [u.f A o z hn] at h; cases h⟩
  refine dc_it w (fun i H' => ∃ Hs' kv acc τi, Up g Hs1 H1 Hs' H' τi ∧ H' A = some (.dK kv) ∧ Hs' A = none ∧ Kps Hs' kv acc ∧ acc.length ≤ i ∧ dcL b c k e (ds.drop i) acc (wipeE env vs) τi = some (res, τ'))
    ⟨Hs1, [], [], τ1, uz.mk1 hA, upd_same, hA1, .nil, Nat.le_refl _, by rw [List.drop_zero]; exact h3⟩ (fun i H' _ ⟨Hs', kv, acc, τi, u2, _⟩ => wG Hs' H' τi u2) (fun i x H2 H3 hi ⟨Hs2, kv, acc, τi, u2, hacc, hA2, hr, hl, hc⟩ hy => ?_) fun H' ⟨Hs2, kv, acc, τi, u2, hacc, hA2, hr, hl, hc⟩ => ?_
  · have hd : ds[i]? = some (ds[i]'hi) := List.getElem?_eq_getElem hi
    generalize ds[i]'hi = d at hd
    obtain ⟨Hs3, u3, rx⟩ := wY Hs2 H2 τi i x H3 d u2 hy hd
    obtain ⟨hacc3, hA3⟩ := stay u3 hacc hA2 rfl
    rw [List.drop_eq_getElem_cons hi, show ds[i] = d from Option.some.inj ((List.getElem?_eq_getElem hi).symm.trans hd)] at hc
    have hc' : (match b d (wipeE env vs) with
      | none => none
      | some env1 => bnd (c env1 τi) fun t τ1 => if t = true then bnd (k env1 τ1) fun d τ2 => bnd (e env1 τ2) fun y τ3 => match keyD d with
          | some kk => dcL b c k e (ds.drop (i + 1)) (putD acc kk y) (wipeE env vs) τ3
          | none => none
        else dcL b c k e (ds.drop (i + 1)) acc (wipeE env vs) τ1) = some (res, τ') := hc
    cases hb : b d (wipeE env vs) with
    | none => rw [hb] at hc'; cases hc'
    | some env1 =>
      rw [hb] at hc'
      obtain ⟨t, τ4, h5, h6⟩ := bnd_eq hc'
      have r3 : Rel g Hs3 H3 (wipe σ vs) (wipeE env vs) τi := (r1.up u2).up u3
      refine ⟨g, Hs3, wipeE env vs, τi, d, env1, r3, rx, hb, fun σ2 r4 tt => ⟨?_, g, Hs3, env1, τi, t, τ4, r4, h5, fun Hs4 H4 u4 => ?_⟩⟩
      · rw [tt.wipe his, wipe_wipe]
      · obtain ⟨hacc4, hA4⟩ := stay u4 hacc3 hA3 rfl
        cases t with
        | false =>
          have h6 : dcL b c k e (ds.drop (i + 1)) acc (wipeE env vs) τ4 = some (res, τ') := h6
          exact iteF ⟨Hs4, kv, acc, τ4, (u2.trans u3).trans u4, hacc4, hA4, (hr.to u3.s).to u4.s, Nat.le_succ_of_le hl, h6⟩
        | true =>
          obtain ⟨dk, τ5, h7, h8⟩ := bnd_eq h6
          obtain ⟨y, τ6, h9, h10⟩ := bnd_eq h8
          split at h10
          · rename_i kk hkk
            refine iteT ⟨g, Hs4, env1, τ4, dk, τ5, r4.up u4, h7, fun wk Hs5 H5 u5 rk => ⟨g, Hs5, env1, τ5, y, τ6, (r4.up u4).up u5, h9, fun wy Hs6 H6 u6 ry => ?_⟩⟩
            obtain ⟨hacc5, hA5⟩ := stay u5 hacc4 hA4 rfl
            obtain ⟨hacc6, hA6⟩ := stay u6 hacc5 hA5 rfl
            have ut := (((u2.trans u3).trans u4).trans u5).trans u6
            have hk := hr.len
            have hle := putD_le acc kk y
            refine ⟨kv, kk, keyD_v hkk rk, hacc6, by omega, Hs6, _, putD acc kk y, τ6, ut.put hA hA6 nT hacc6 rfl, upd_same, hA6, ((((hr.to u3.s).to u4.s).to u5.s).to u6.s).put kk ry, by omega, h10⟩
          · cases h10
  · rw [List.drop_length] at hc
    cases hc
    exact q _ Hs2 H' (u1.trans u2) ⟨A, kv, rfl, nT, hA2, hacc, hr⟩ fun _ p ep => by cases ep; exact u1.old hA
section
variable {X : Cx} {pos : Pos} {kx vx tg iter : Expr} {ifs : List Expr} {scope : Scope} {own : List (Str × Nat)} {is : List Nat} {it : DI} {b : DG} {c : DT} {k e : DD}
theorem jdc (hN : X.N.Nodup) (hi : JC X tg iter it) (ok : BlkOk X.N X.env.scope scope own)
    (hg : ∀ (s : Shared) (H : Hp) (C : Addr) (cl : List (Str × Addr)) (fp : List Addr), JG (X.blk s H scope (compEnvC scope cl C X.env) fp) tg is b)
    (ht : ∀ (s : Shared) (H : Hp) (C : Addr) (cl : List (Str × Addr)) (fp : List Addr), JTs (X.blk s H scope (compEnvC scope cl C X.env) fp) ifs c)
    (hk : ∀ (s : Shared) (H : Hp) (C : Addr) (cl : List (Str × Addr)) (fp : List Addr), JD (X.blk s H scope (compEnvC scope cl C X.env) fp) kx k)
    (he : ∀ (s : Shared) (H : Hp) (C : Addr) (cl : List (Str × Addr)) (fp : List Addr), JD (X.blk s H scope (compEnvC scope cl C X.env) fp) vx e)
    (his : ∀ i ∈ is, i ∈ own.map (·.2) := by decide) (hc : X.calm = true := by rfl) (hs : ∀ x, foldedSetIterable iter X.env x = pure x := by intro _; rfl) : JV X (.DictComp kx vx [⟨tg, iter, ifs, 0⟩] scope pos) (dDc (own.map (·.2)) it b c k e) :=
  PEi (pe_dc hc hN hi ok hg ht hk he hs) (dc_run his)
end
/-! ### dict(list of pairs) -/
def pairK : D → Option (Key × D)
  | .tuple [k, v] => (keyD k).map fun c => (c, v)
  | _ => none
def pairsK : List D → Option (List (Key × D))
  | [] => some []
  | d :: ds => match pairK d, pairsK ds with
    | some p, some ps => some (p :: ps)
    | _, _ => none
def mergeD (kvs more : List (Key × D)) : List (Key × D) := more.foldl (fun acc kv => putD acc kv.1 kv.2) kvs
theorem Kps.merge {H : Hp} : ∀ {b : List (Key × V)} {b' : List (Key × D)} {a : List (Key × V)} {a' : List (Key × D)}, Kps H b b' → Kps H a a' → Kps H (mergeK a b) (mergeD a' b')
  | _, _, _, _, .nil, h => h
  | _, _, a, a', @Paired.cons _ _ _ p q ps qs h t, k => by
    have h1 : Kps H (putK a p.1 p.2) (putD a' q.1 q.2) := by
      have := k.put p.1 h.2
      rw [show q.1 = p.1 from h.1.symm]
      exact this
    exact Kps.merge (b := ps) (b' := qs) t h1
theorem pairs_v {K : PySem.W.Frag} {Hs H : Hp} (le : Same Hs H) : ∀ {ds : List D} {ws : List V} {prs : List (Key × D)}, pairsK ds = some prs → Rps Hs ws ds → ∃ (ps : List Addr) (kvs : List (Key × V)), ws = ps.map V.ref ∧ Paired (fun p kv => SqT K H p [kV kv.1, kv.2]) ps kvs ∧ Kps Hs kvs prs
  | [], _, _, e, r => by
    cases e; cases r
    exact ⟨[], [], rfl, .nil, .nil⟩
  | d :: ds, _, _, e, r => by
    unfold pairsK at e
    split at e
    · rename_i p ps h1 h2
      cases e
      cases r with
      | @cons v vs _ _ a b =>
        obtain ⟨as, kvs, rfl, hp, hk⟩ := pairs_v (K := K) le h2 b
        unfold pairK at h1
        split at h1
        · rename_i kd vd
          have h1 : (keyD kd).map (fun c => (c, vd)) = some p := h1
          cases hkd : keyD kd with
          | none => rw [hkd] at h1; cases h1
          | some c =>
            rw [hkd] at h1
            cases h1
            cases a with
            | tup e1 e2 e3 =>
              cases e3 with
              | cons x1 x2 =>
                cases x2 with
                | cons y1 y2 =>
                  cases y2
                  rw [keyD_v hkd x1] at e1
                  exact ⟨_ :: as, (c, _) :: kvs, rfl, .cons (e1.mono le).sq hp, .cons ⟨rfl, y1⟩ hk⟩
        · cases h1
    · cases e
def dDictL (f : DD) : DE := fun env τ => bnd (f env τ) fun d τ1 => match d with
  | .list ds => match pairsK ds with
    | some prs => some (.dk (mergeD [] prs), τ1)
    | none => none
  | _ => none
theorem jdictL {X : Cx} {p pos : Pos} {e : Expr} {f : DD} (hm : X.mg "dict" = none) (he : JR X e f) (hcalm : X.calm = true := by rfl) (hg : Gl X "dict" := by rfl)
    (h1 : starEach [e] X.env = (false, eval e X.env) :: starEach [] X.env := by rfl) (hpl : (backTo pos (starEach [] X.env)).any (·.1) = false := by rfl) : JV X (.Call (.Name "dict" p) [e] [] pos) (dDictL f) :=
  PEi (pe_callTy (call_dictP hcalm) hg hm (by decide +kernel) (jr_cons he jr_nil h1) (by decide) (by decide) h1 hpl) fun σ H Q ⟨g, Hs, env, τ, o, τ', r, hf, q⟩ => by
    obtain ⟨d, τ1, h1, h2⟩ := bnd_eq hf
    refine ⟨g, Hs, env, τ, [d], τ1, r, by show bnd (f env τ) _ = _; rw [h1]; rfl, fun ws Hs1 H1 u1 r1 => ?_⟩
    obtain ⟨w, rfl, rw1⟩ := rdb1 r1
    split at h2
    · rename_i ds
      split at h2
      · rename_i prs hp
        cases h2
        obtain ⟨a, xs, rfl, ha, hl, hr⟩ := rw1.list u1.le
        obtain ⟨ps, kvs, rfl, hps, hk⟩ := pairs_v (K := X.K) u1.le hp hr
        refine ⟨a, ps, kvs, rfl, .of ha, hps, fun p hp' => ?_⟩
        exact q _ Hs1 _ (u1.mk1 hp') ⟨p, _, rfl, u1.neT hp', u1.freeS hp', upd_same, Kps.merge hk .nil⟩ fun _ p' e => by cases e; exact u1.old hp'
      · cases h2
    · cases h2
/-- len of a dict -/
def dLenM (m : DE) : DD := fun env τ => bnd (m env τ) fun v τ1 => match v with
  | .dk kvs => some (.int kvs.length, τ1)
  | _ => none
theorem jlenM {X : Cx} {p pos : Pos} {e : Expr} {m : DE} (hm : X.mg "len" = none) (he : JM X e m) (hg : Gl X "len" := by rfl)
    (h1 : starEach [e] X.env = (false, eval e X.env) :: starEach [] X.env := by rfl) (hpl : (backTo pos (starEach [] X.env)).any (·.1) = false := by rfl) : JD X (.Call (.Name "len" p) [e] [] pos) (dLenM m) :=
  PEi (pe_callB call_lenD hg hm (by decide +kernel) (pa_cons he pa_nil h1) (by decide) (by decide) h1 hpl) fun σ H Q ⟨g, Hs, env, τ, o, τ', r, hf, q⟩ => by
    obtain ⟨v, τ1, h1, h2⟩ := bnd_eq hf
    refine ⟨g, Hs, env, τ, v, τ1, r, h1, fun w Hs1 H1 u1 rv => ?_⟩
    split at h2
    · rename_i kvs
      cases h2
      obtain ⟨p, kv, rfl, _, _, hp, hr⟩ := rv
      exact ⟨p, kv, rfl, hp, q _ Hs1 H1 u1 (by rw [hr.len]; exact .int _)⟩
    · cases h2
end Pv
namespace Pv
open PySem L2 PySem.Spec PyProof.Rows
variable [Tbl]
def SqB (K : PySem.W.Frag) (b : Bool) (H : Hp) (a : Addr) (xs : List V) : Prop := match b with
  | true => SqL K H a xs
  | false => SqT K H a xs
def ArB (b : Bool) (h : Heap) (a : Addr) (its : Array Value) : Prop := match b with
  | true => h.IsList a its
  | false => h.IsTuple a its
def ItB (b : Bool) (h : Heap) (i a : Addr) (n : Nat) : Prop := match b with
  | true => h.IsListIter i a n
  | false => h.IsTupleIter i a n
def obB (b : Bool) (a : Addr) : Obj := match b with
  | true => { cls := .type "list_iterator", data := .fields #[.ref a, .int 0 0] }
  | false => { cls := .type "tuple_iterator", data := .fields #[.ref a, .int 0 0] }
theorem ItB.at {b : Bool} {h h' : Heap} {i a : Addr} {n : Nat} (x : ItB b h i a n) (e : ∀ o, h.get? i = some o → h'.get? i = some o) : ItB b h' i a n := by
  cases b
  · exact (show h.IsTupleIter i a n from x).at e
  · exact (show h.IsListIter i a n from x).at e
theorem ItB.obj {b : Bool} {h : Heap} {i a : Addr} {n : Nat} (x : ItB b h i a n) : ∃ o, h.get? i = some o ∧ ∀ v, o.data ≠ .cell v := by
  cases b
  · obtain ⟨o, e, _, d⟩ := (show h.IsTupleIter i a n from x)
    exact ⟨o, e, fun v q => by rw [d] at q; cases q⟩
  · obtain ⟨o, e, _, d⟩ := (show h.IsListIter i a n from x)
    exact ⟨o, e, fun v q => by rw [d] at q; cases q⟩
theorem ItB.start {b : Bool} {h : Heap} {i a : Addr} (e : h.get? i = some (obB b a)) : ItB b h i a 0 := by
  cases b
  · exact ⟨_, e, rfl, rfl⟩
  · exact ⟨_, e, rfl, rfl⟩
theorem beginsB (b : Bool) (a : Addr) (its : Array Value) : Begins (.ref a) (obB b a) fun h => ArB b h a its := by
  cases b
  · exact begins_tuple a its
  · exact begins_list a its
theorem drawsB {prog : Program} {w : World} {A : Around} (hh : A.handled = none) (b : Bool) (it a : Addr) (hne : a ≠ it) (its : Array Value) :
    Draws prog w A it [it, a] its.size (fun i v => its[i]? = some v) (fun i h => ItB b h it a i ∧ ArB b h a its) := by
  cases b
  · exact Draws.tuple hh it a hne its
  · exact Draws.list hh it a hne its
section
variable {X : Cx} {pins : List (Addr × Obj)} {σ : Sl} {H : Hp} {s : Shared}
theorem SqB.arr (I : Inv X pins σ H s) {b : Bool} {a : Addr} {xs : List V} (q : SqB X.K b H a xs) : ∃ its : List Value, Vals xs its ∧ ArB b s.heap a its.toArray ∧ a < s.heap.objs.size := by
  cases b
  · obtain ⟨its, rv, p, _⟩ := I.tuple (show SqT X.K H a xs from q)
    obtain ⟨o, ho, r⟩ := id p
    exact ⟨its, rv, p, Heap.lt_size ho⟩
  · obtain ⟨its, rv, p, _⟩ := I.list (show SqL X.K H a xs from q)
    exact ⟨its, rv, p.isList, p.lt⟩
theorem SqB.inj (I : Inv X pins σ H s) {b : Bool} {a : Addr} {xs ys : List V} (q : SqB X.K b H a xs) (q' : SqB X.K b H a ys) : xs = ys := by
  cases b
  · exact I.tuple_inj q q'
  · exact I.list_inj q q'
end
/-- a pair of a text and a tuple, in the heap -/
def PrV (H : Hp) (x : V) : Prop := ∃ a s b ys, x = .ref a ∧ Rd H a (.tup [.str s, .ref b]) ∧ Rd H b (.tup ys)
theorem rd_inj {H : Hp} {a : Addr} {u v : HO} (h1 : Rd H a u) (h2 : Rd H a v) (n1 : ∀ o w, u ≠ .frz o w) (n2 : ∀ o w, v ≠ .frz o w) : u = v := by
  rcases h1 with h1 | ⟨o1, h1⟩ <;> rcases h2 with h2 | ⟨o2, h2⟩ <;> rw [h1] at h2
  · exact Option.some.inj h2
  · exact absurd (Option.some.inj h2) (n1 _ _)
  · exact absurd (Option.some.inj h2).symm (n2 _ _)
  · injection h2 with h2; injection h2
theorem prV_iff {Hs H : Hp} (le : Same Hs H) {x : V} {d : D} (r : Rp Hs x d) : PrV H x ↔ isPr d = true := by
  constructor
  · rintro ⟨a, s, b, ys, rfl, h1, h2⟩
    cases r with
    | lst e1 _ _ =>
      rcases h1 with h | ⟨o, h⟩ <;> rw [le _ _ e1] at h <;> cases h
    | tup e1 _ e3 =>
      have := rd_inj (e1.mono le).rd h1 (fun _ _ e => by cases e) (fun _ _ e => by cases e)
      cases this
      cases e3 with
      | cons q1 q2 =>
        cases q2 with
        | cons q2 q3 =>
          cases q3
          cases q1
          cases q2 with
          | lst k1 _ _ => rcases h2 with h | ⟨o, h⟩ <;> rw [le _ _ k1] at h <;> cases h
          | tup _ _ _ => rfl
  · intro h
    unfold isPr at h
    split at h
    · cases r with
      | tup e1 _ e3 =>
        cases e3 with
        | cons q1 q2 =>
          cases q2 with
          | cons q2 q3 =>
            cases q3
            cases q1
            cases q2 with
            | tup k1 _ _ => exact ⟨_, _, _, _, rfl, (e1.mono le).rd, (k1.mono le).rd⟩
    · cases h
/-- a and b as they stand at each turn, the items in new pairs -/
def ItzB (K : PySem.W.Frag) (ba bb : Bool) (a b : Addr) : It :=
  ⟨fun i H => ∃ (xs ys : List V) (x y : V), SqB K ba H a xs ∧ SqB K bb H b ys ∧ xs[i]? = some x ∧ ys[i]? = some y,
    fun i H v H' => ∃ T x y c o, v = .ref T ∧ H T = none ∧ (Obj.dict o = none ∧ (c = true ↔ PrV H x ∧ PrV H y)) ∧ H' = upd H T (tupO c o [x, y]) ∧ (∀ xs, SqB K ba H a xs → xs[i]? = some x) ∧ ∀ ys, SqB K bb H b ys → ys[i]? = some y,
    fun i H => ∃ xs ys : List V, SqB K ba H a xs ∧ SqB K bb H b ys ∧ i ≤ xs.length ∧ i ≤ ys.length ∧ (i = xs.length ∨ i = ys.length)⟩
theorem turn_zipB {P : Program} {w : World} {K : PySem.W.Frag} {elts : List Expr} {kk : Nat} {tpos : Pos} {ba bb : Bool} {a b z TI TO i1 i2 : Addr} (S : ZipSep2 z TI TO i1 i2 [i1, a] [i2, b]) (n1 : a ≠ i1) (n2 : b ≠ i2) :
    Turn P w K (.Tuple elts kk tpos) (ItzB K ba bb a b) [z, TI, TO, i1, i2] z (fun i h => IsZip h z TI TO .none ∧ IsTupOf2 h TI (.ref i1) (.ref i2) ∧ (∃ x y, IsTupOf2 h TO x y) ∧ ItB ba h i1 a i ∧ ItB bb h i2 b i) where
  mem := by simp
  obj := fun i h st c hc => by
    obtain ⟨hz, hTI, ⟨x, y, hTO⟩, h1, h2⟩ := st
    have e' : c = z ∨ c = TI ∨ c = TO ∨ c = i1 ∨ c = i2 := by simpa using hc
    rcases e' with rfl | rfl | rfl | rfl | rfl
    · exact ⟨_, hz, fun v q => nomatch q⟩
    · exact ⟨_, hTI, fun v q => nomatch q⟩
    · exact ⟨_, hTO, fun v q => nomatch q⟩
    · exact h1.obj
    · exact h2.obj
  keep := fun i h h' st k => by
    obtain ⟨hz, hTI, ⟨x, y, hTO⟩, h1, h2⟩ := st
    exact ⟨k z (by simp) _ hz, k TI (by simp) _ hTI, ⟨x, y, k TO (by simp) _ hTO⟩, h1.at fun o q => k i1 (by simp) o q, h2.at fun o q => k i2 (by simp) o q⟩
  item := by
    intro X hP hw hK hc i pins s σ H E I hf st hg
    subst hP hw hK
    obtain ⟨hz, hTI, ⟨x0, y0, hTO⟩, h1, h2⟩ := st
    obtain ⟨xs, ys, x, y, hqx, hqy, hx, hy⟩ := hg
    obtain ⟨its, rv, p, la⟩ := hqx.arr I
    obtain ⟨its2, rv2, p2, lb⟩ := hqy.arr I
    obtain ⟨u, hu, ru⟩ := rv.get hx
    obtain ⟨u2, hu2, ru2⟩ := rv2.get hy
    have hzl : z < s.heap.objs.size := Heap.lt_size hz
    have li : i < its.toArray.size := by
      have := (List.getElem?_eq_some_iff.mp hu).1
      simpa using this
    have li2 : i < its2.toArray.size := by
      have := (List.getElem?_eq_some_iff.mp hu2).1
      simpa using this
    have hh := I.ok.hd hc
    refine wpAny_pyNext_zipD2_item S (drawsB (A := X.A.in1) hh ba i1 a n1 its.toArray) (drawsB (A := X.A.in1) hh bb i2 b n2 its2.toArray) hz hTI hTO ⟨h1, p⟩ ⟨h2, p2⟩ li li2 fun v1 v2 h' tk e1 e2 z' TO' d1 d2 hT hsz hk => ?_
    have ev1 : v1 = u := by
      have : its[i]? = some v1 := by simpa using e1
      rw [hu] at this; cases this; rfl
    have ev2 : v2 = u2 := by
      have : its2[i]? = some v2 := by simpa using e2
      rw [hu2] at this; cases this; rfl
    subst ev1; subst ev2
    refine ⟨_, rfl, wpAny_letOwnedTupleGo_zip (s := { s with heap := h', toks := tk }) z' fun h'' z'' sb => ?_⟩
    have hT2 : h''.get? s.heap.objs.size = some { cls := .type "tuple", data := .seq #[v1, v2] } := (sb.2 _ (Nat.ne_of_gt hzl)).trans hT
    obtain ⟨c, hc⟩ : ∃ c : Bool, c = true ↔ PrV H x ∧ PrV H y := by
      by_cases h : PrV H x ∧ PrV H y
      · exact ⟨true, by simp [h]⟩
      · exact ⟨false, by simp only [Bool.false_eq_true, false_iff]; exact h⟩
    have new : ObjOk X.prog X.w (upd H s.heap.objs.size (tupO c { cls := .type "tuple", data := .seq [v1, v2].toArray } [x, y])) h'' s.heap.objs.size (tupO c { cls := .type "tuple", data := .seq [v1, v2].toArray } [x, y]) :=
      tupO_ok hT2 (.cons ru (.cons ru2 .nil)) (by show 2 ≤ sizeLine; decide)
    have I1 : Inv X pins σ (upd H s.heap.objs.size (tupO c { cls := .type "tuple", data := .seq [v1, v2].toArray } [x, y])) { s with heap := h'', toks := tk } :=
      I.turnedNew (t' := tk) (ch := [z, TI, TO, i1, i2]) (fun c o hb q => (sb.2 c (fun q' => hb (by simp [q']))).trans (hk c o (fun q' => hb (by simp [q'])) (fun q' => hb (by simp [q'])) (fun q' => hb (by simp [q'])) (fun q' => hb (by simp [q'])) q)) hf (Nat.le_refl _) new
    have i1z : i1 ≠ z := fun e => S.zf1 (by rw [e]; simp)
    have i2z : i2 ≠ z := fun e => S.zf2 (by rw [e]; simp)
    refine ⟨.ref s.heap.objs.size, _, I1, rfl, ⟨_, x, y, c, _, rfl, I.hok.fresh (Nat.le_refl _), ⟨rfl, hc⟩, rfl, fun l hl => by rw [hl.inj I hqx]; exact hx, fun l hl => by rw [hl.inj I hqy]; exact hy⟩, ⟨z'', ?_, ⟨v1, v2, ?_⟩, ?_, ?_⟩, fun c hcm => ?_⟩
    · exact (sb.2 _ S.TIz).trans (hk _ _ S.TIz S.TITO S.TIi1 S.TIi2 hTI)
    · exact (sb.2 _ S.TOz).trans TO'
    · exact d1.1.at fun o q => (sb.2 _ i1z).trans q
    · exact d2.1.at fun o q => (sb.2 _ i2z).trans q
    · have hlt : c < s.heap.objs.size := by
        have e' : c = z ∨ c = TI ∨ c = TO ∨ c = i1 ∨ c = i2 := by simpa using hcm
        rcases e' with q | q | q | q | q
        · rw [q]; exact hzl
        · rw [q]; exact Heap.lt_size hTI
        · rw [q]; exact Heap.lt_size hTO
        · rw [q]; obtain ⟨_, e1, _⟩ := h1.obj; exact Heap.lt_size e1
        · rw [q]; obtain ⟨_, e2, _⟩ := h2.obj; exact Heap.lt_size e2
      rw [upd_ne (Nat.ne_of_lt hlt)]
      exact (hf c hcm).1
  done := by
    intro X hP hw hK hc i pins s σ H E I hf st hg
    subst hP hw hK
    obtain ⟨hz, hTI, ⟨x0, y0, hTO⟩, h1, h2⟩ := st
    obtain ⟨xs, ys, hqx, hqy, hle1, hle2, hend⟩ := hg
    obtain ⟨its, rv, p, _⟩ := hqx.arr I
    obtain ⟨its2, rv2, p2, _⟩ := hqy.arr I
    have l1 := rv.length
    have l2 := rv2.length
    have hh := I.ok.hd hc
    exact wpAny_pyNext_zipD2_end S (drawsB (A := X.A.in1) hh ba i1 a n1 its.toArray) (drawsB (A := X.A.in1) hh bb i2 b n2 its2.toArray) hz hTI hTO ⟨h1, p⟩ ⟨h2, p2⟩ (by simp; omega) (by simp; omega) (by simp; omega) fun h' tk hk => ⟨rfl, I.turnedL (t' := tk) (ch := [z, TI, TO, i1, i2]) (fun c o hb q =>
      hk c o (fun q' => hb (by simp [q'])) (fun q' => hb (by simp [q'])) (fun q' => hb (by simp [q'])) (fun q' => hb (by simp [q'])) q) hf⟩
  self := fun A i s Q E st h => wpAny_pyIter_zip st.1 h
def YPairO (f g : Nat → Option V) (i : Nat) (H : Hp) (v : V) (H' : Hp) : Prop := ∃ T x y c o, v = .ref T ∧ H T = none ∧ (Obj.dict o = none ∧ (c = true ↔ PrV H x ∧ PrV H y)) ∧ H' = upd H T (tupO c o [x, y]) ∧ f i = some x ∧ g i = some y
theorem walk_zipB {K : PySem.W.Frag} {ba bb : Bool} {a b : Addr} {xs ys : List V} {n : Nat} (hn : n = min xs.length ys.length) : Walk (ItzB K ba bb a b) n (fun H => SqB K ba H a xs ∧ SqB K bb H b ys) (YPairO (fun i => xs[i]?) (fun i => ys[i]?)) := by
  subst hn
  refine ⟨fun i _ hi q => ?_, fun _ q => ⟨xs, ys, q.1, q.2, by omega, by omega, by omega⟩, fun i H v H' _ q y => ?_⟩
  · have h1 : i < xs.length := by omega
    have h2 : i < ys.length := by omega
    exact ⟨xs, ys, xs[i], ys[i], q.1, q.2, List.getElem?_eq_getElem h1, List.getElem?_eq_getElem h2⟩
  · obtain ⟨T, x, z, c, o, h1, h2, h3, h4, h5, h6⟩ := y
    exact ⟨T, x, z, c, o, h1, h2, h3, h4, h5 xs q.1, h6 ys q.2⟩
def iZipB (K : PySem.W.Frag) (ta : TA) : TI := fun σ H R => ta σ H fun vs H1 => ∃ a b ba bb xs ys, vs = [.ref a, .ref b] ∧ SqB K ba H1 a xs ∧ SqB K bb H1 b ys ∧ R (ItzB K ba bb a b) H1
theorem pi_zipB {X : Cx} {e e2 : Expr} {ta : TA} {p pos tpos : Pos} {elts : List Expr} {kk : Nat} (hg : Gl X "zip") (hm : X.mg "zip" = none) (ha : PA X [e, e2] ta)
    (hs : starEach [e, e2] X.env = (false, eval e X.env) :: starEach [e2] X.env := by rfl) (hpl : (backTo pos (starEach [e2] X.env)).any (·.1) = false := by rfl) :
    PI X (.Tuple elts kk tpos) (.Call (.Name "zip" p) [e, e2] [] pos) (iZipB X.K ta) := by
  refine ⟨fun pins s σ H R I h => ?_⟩
  refine Call_ (ld_blt I hg hm PyProof.Rows.boot_zip (PyProof.Rows.callWith_type1 (thn (ha.run pos pins s σ H _ I h) fun us s1 ⟨vs, H1, I1, r1, q1⟩ => ?_) hs hpl))
  obtain ⟨a, b, ba, bb, xs, ys, ex, hqx, hqy, q⟩ := q1
  subst ex
  cases r1 with
  | cons r rr =>
    cases rr with
    | cons r' rr =>
      cases rr
      cases r
      cases r'
      obtain ⟨its, rv, p1, la⟩ := hqx.arr I1
      obtain ⟨its2, rv2, p2, lb⟩ := hqy.arr I1
      refine zip_begins2 (beginsB ba a its.toArray) (beginsB bb b its2.toArray) p1 p2 fun h' hz hTI hTO h1 h2 hsz hk => wpAny_pyIter_zip hz ?_
      have I2 : Inv X pins σ H1 { s1 with heap := h' } := I1.kept (t' := s1.toks) hk
      have S : ZipSep2 (s1.heap.objs.size + 4) (s1.heap.objs.size + 2) (s1.heap.objs.size + 3) s1.heap.objs.size (s1.heap.objs.size + 1) [s1.heap.objs.size, a] [s1.heap.objs.size + 1, b] :=
        zip_sep2 (fun c hc => by rw [List.mem_singleton.mp hc]; exact la) (fun c hc => by rw [List.mem_singleton.mp hc]; exact lb)
      refine ⟨s1.heap.objs.size + 4, [s1.heap.objs.size + 4, s1.heap.objs.size + 2, s1.heap.objs.size + 3, s1.heap.objs.size, s1.heap.objs.size + 1], _, _, H1, rfl, I2, turn_zipB S (Nat.ne_of_lt la) (Nat.ne_of_lt (Nat.lt_succ_of_lt lb)), ⟨hz, hTI, ⟨_, _, hTO⟩, .start h1, .start h2⟩, fun c hcm => ?_, q⟩
      have e' : c = s1.heap.objs.size + 4 ∨ c = s1.heap.objs.size + 2 ∨ c = s1.heap.objs.size + 3 ∨ c = s1.heap.objs.size ∨ c = s1.heap.objs.size + 1 := by simpa using hcm
      have hle : s1.heap.objs.size ≤ c := by
        rcases e' with z | z | z | z | z
        · rw [z]; exact Nat.le_add_right _ _
        · rw [z]; exact Nat.le_add_right _ _
        · rw [z]; exact Nat.le_add_right _ _
        · rw [z]; exact Nat.le_refl _
        · rw [z]; exact Nat.le_add_right _ _
      exact I1.fpOk hle (I1.hok.fresh hle)
/-! by values -/
def itemsD : D → Option (List D)
  | .list xs => some xs
  | .tuple xs => some xs
  | _ => none
def dZip (f k : DD) : DI := fun env τ => bnd (f env τ) fun x τ1 => bnd (k env τ1) fun y τ2 => match itemsD x, itemsD y with
  | some xs, some ys => some (zipD xs ys, τ2)
  | _, _ => none
theorem rp_sq {K : PySem.W.Frag} {Hs H : Hp} {w : V} {d : D} {xs : List D} (le : Same Hs H) (r : Rp Hs w d) (e : itemsD d = some xs) : ∃ a b vs, w = .ref a ∧ Rps Hs vs xs ∧ vs.length ≤ sizeLine ∧ ∀ H, Same Hs H → SqB K b H a vs := by
  unfold itemsD at e
  split at e
  · cases e
    cases r with
    | lst h1 h2 h3 => exact ⟨_, true, _, rfl, h3, h2, fun H le => .of (le _ _ h1)⟩
  · cases e
    cases r with
    | tup h1 h2 h3 => exact ⟨_, false, _, rfl, h3, h2, fun H le => (h1.mono le).sq⟩
  · cases e
theorem rdb_sq {K : PySem.W.Frag} {g : G} {Hs H : Hp} {w : V} {d : D} {xs : List D} {τ : Tp} (r : Rdb g.aT Hs H w d) (e : itemsD d = some xs) : ∃ a b vs, w = .ref a ∧ Rps Hs vs xs ∧ vs.length ≤ sizeLine ∧ ∀ Hs2 H2 τ2, Same Hs H → Up g Hs H Hs2 H2 τ2 → SqB K b H2 a vs := by
  rcases r with r | ⟨ds, p, ys, rfl, rfl, nT, hp, hl, hr⟩
  · by_cases le : Same Hs H
    · obtain ⟨a, b, vs, h1, h2, h3, h4⟩ := rp_sq (K := K) le r e
      exact ⟨a, b, vs, h1, h2, h3, fun Hs2 H2 τ2 _ u => h4 H2 (u.s.trans u.le)⟩
    · unfold itemsD at e
      split at e
      · cases e
        cases r with
        | lst h1 h2 h3 => exact ⟨_, true, _, rfl, h3, h2, fun _ _ _ l => absurd l le⟩
      · cases e
        cases r with
        | tup h1 h2 h3 => exact ⟨_, false, _, rfl, h3, h2, fun _ _ _ l => absurd l le⟩
      · cases e
  · cases e
    exact ⟨p, true, ys, rfl, hr, hl, fun Hs2 H2 τ2 _ u => .of (u.h _ _ hp nT rfl)⟩
section
variable {X : Cx} {e e2 : Expr} {p pos tpos : Pos} {elts : List Expr} {kk : Nat} {f k : DD}
theorem ji_zip (hm : X.mg "zip" = none) (h1 : JD X e f) (h2 : JD X e2 k) (hg : Gl X "zip" := by rfl)
    (hs : starEach [e, e2] X.env = (false, eval e X.env) :: starEach [e2] X.env := by rfl) (hs2 : starEach [e2] X.env = (false, eval e2 X.env) :: starEach [] X.env := by rfl) (hpl : (backTo pos (starEach [e2] X.env)).any (·.1) = false := by rfl) :
    JI X (.Tuple elts kk tpos) (.Call (.Name "zip" p) [e, e2] [] pos) (dZip f k) :=
  PIi (pi_zipB hg hm (ja_cons h1 (ja_cons h2 ja_nil hs2) hs) hs hpl) fun σ H R ⟨g, Hs, env, τ, ds, τ', r, hf, q⟩ => by
    obtain ⟨x, τ1, h1, h2⟩ := bnd_eq hf
    obtain ⟨y, τ2, h3, h4⟩ := bnd_eq h2
    split at h4
    · rename_i xs ys hx hy
      cases h4
      refine ⟨g, Hs, env, τ, [x, y], τ', r, by show bnd (f env τ) _ = _; rw [h1]; show bnd (bnd (k env τ1) _) _ = _; rw [h3]; rfl, fun ws Hs1 H1 u1 rs => ?_⟩
      cases rs with
      | cons a1 b1 =>
        cases b1 with
        | cons a2 b2 =>
          cases b2
          obtain ⟨a, ba, vs, rfl, rx, lx, sx⟩ := rp_sq (K := X.K) u1.le a1 hx
          obtain ⟨b, bb, us, rfl, ry, ly, sy⟩ := rp_sq (K := X.K) u1.le a2 hy
          refine ⟨a, b, ba, bb, vs, us, rfl, sx H1 u1.le, sy H1 u1.le, q _ Hs1 H1 u1 ?_ ?_⟩
          · rw [zipD_len, ← rx.len]; omega
          · refine ⟨fun H => SqB X.K ba H a vs ∧ SqB X.K bb H b us, YPairO (fun i => vs[i]?) (fun i => us[i]?), by rw [zipD_len]; exact walk_zipB (xs := vs) (ys := us) (by rw [rx.len, ry.len]), fun Hs2 H2 τ2 f2 => ⟨sx _ (f2.s.trans f2.le), sy _ (f2.s.trans f2.le)⟩, fun Hs2 H2 τ2 i v H3 d f2 yy hd => ?_⟩
            obtain ⟨T, v1, v2, c, o, rfl, hT, ⟨ho, hc⟩, rfl, e1, e2⟩ := yy
            have e1 : vs[i]? = some v1 := e1
            have e2 : us[i]? = some v2 := e2
            obtain ⟨d1, d2, g1, g2, rfl⟩ := zipD_get hd
            obtain ⟨w1, e1', r1⟩ := rx.get g1
            obtain ⟨w2, e2', r2⟩ := ry.get g2
            rw [e1] at e1'; cases e1'
            rw [e2] at e2'; cases e2'
            have hcm : c = cmL [d1, d2] := by
              have q1 := prV_iff f2.le (r1.to f2.s)
              have q2 := prV_iff f2.le (r2.to f2.s)
              rw [Bool.eq_iff_iff, hc, q1, q2]
              simp [cmL]
            rw [hcm]
            exact new_pair f2.le f2.tp hT (r1.to f2.s) (r2.to f2.s) o ho
    · cases h4
theorem jc_zip (hm : X.mg "zip" = none) (h1 : JR X e f) (h2 : JR X e2 k) (hg : Gl X "zip" := by rfl)
    (hs : starEach [e, e2] X.env = (false, eval e X.env) :: starEach [e2] X.env := by rfl) (hs2 : starEach [e2] X.env = (false, eval e2 X.env) :: starEach [] X.env := by rfl) (hpl : (backTo pos (starEach [e2] X.env)).any (·.1) = false := by rfl) :
    JC X (.Tuple elts kk tpos) (.Call (.Name "zip" p) [e, e2] [] pos) (dZip f k) :=
  PIi (pi_zipB hg hm (jr_cons h1 (jr_cons h2 jr_nil hs2) hs) hs hpl) fun σ H R ⟨g, Hs, env, τ, ds, τ', r, hf, q⟩ => by
    obtain ⟨x, τ1, h1, h2⟩ := bnd_eq hf
    obtain ⟨y, τ2, h3, h4⟩ := bnd_eq h2
    split at h4
    · rename_i xs ys hx hy
      cases h4
      refine ⟨g, Hs, env, τ, [x, y], τ', r, by show bnd (f env τ) _ = _; rw [h1]; show bnd (bnd (k env τ1) _) _ = _; rw [h3]; rfl, fun ws Hs1 H1 u1 rs => ?_⟩
      cases rs with
      | cons a1 b1 =>
        cases b1 with
        | cons a2 b2 =>
          cases b2
          obtain ⟨a, ba, vs, rfl, rx, lx, sx⟩ := rdb_sq (K := X.K) (τ := τ') a1 hx
          obtain ⟨b, bb, us, rfl, ry, ly, sy⟩ := rdb_sq (K := X.K) (τ := τ') a2 hy
          have u0 := Up.refl u1.le u1.tp
          refine ⟨a, b, ba, bb, vs, us, rfl, sx _ _ _ u1.le u0, sy _ _ _ u1.le u0, q _ Hs1 H1 u1 ?_ ?_⟩
          · rw [zipD_len, ← rx.len]; omega
          · refine ⟨fun H => SqB X.K ba H a vs ∧ SqB X.K bb H b us, YPairO (fun i => vs[i]?) (fun i => us[i]?), by rw [zipD_len]; exact walk_zipB (xs := vs) (ys := us) (by rw [rx.len, ry.len]), fun Hs2 H2 τ2 f2 => ⟨sx _ _ _ u1.le f2, sy _ _ _ u1.le f2⟩, fun Hs2 H2 τ2 i v H3 d f2 yy hd => ?_⟩
            obtain ⟨T, v1, v2, c, o, rfl, hT, ⟨ho, hc⟩, rfl, e1, e2⟩ := yy
            have e1 : vs[i]? = some v1 := e1
            have e2 : us[i]? = some v2 := e2
            obtain ⟨d1, d2, g1, g2, rfl⟩ := zipD_get hd
            obtain ⟨w1, e1', r1⟩ := rx.get g1
            obtain ⟨w2, e2', r2⟩ := ry.get g2
            rw [e1] at e1'; cases e1'
            rw [e2] at e2'; cases e2'
            have hcm : c = cmL [d1, d2] := by
              have q1 := prV_iff f2.le (r1.to f2.s)
              have q2 := prV_iff f2.le (r2.to f2.s)
              rw [Bool.eq_iff_iff, hc, q1, q2]
              simp [cmL]
            rw [hcm]
            exact new_pair f2.le f2.tp hT (r1.to f2.s) (r2.to f2.s) o ho
    · cases h4
end
end Pv
namespace Pv
open PySem L2 PySem.Spec PyProof.Rows
variable [Tbl]
inductive Ty where
  | int | bool | str | list | tuple
def tyS : Ty → String
  | .int => "int" | .bool => "bool" | .str => "str" | .list => "list" | .tuple => "tuple"
def kindS : D → String
  | .none => "NoneType" | .bool _ => "bool" | .int _ => "int" | .str _ => "str" | .list _ => "list" | .tuple _ => "tuple" | .dict _ => "dict"
def isB : D → Ty → Bool
  | .bool _, .int => true
  | .bool _, .bool => true
  | .int _, .int => true
  | .str _, .str => true
  | .list _, .list => true
  | .tuple _, .tuple => true
  | _, _ => false
theorem kit_isB (d : D) (t : Ty) : kitB (kindS d) (tyS t) = some (isB d t) := by
  cases d <;> cases t <;> (simp only [kindS, tyS, isB]; decide +kernel)
theorem rdb_ty {K : PySem.W.Frag} {aT : Addr} {Hs H : Hp} {w : V} {d : D} (le : Same Hs H) (r : Rdb aT Hs H w d) : TyX K H w (.type (kindS d)) := by
  rcases r with r | ⟨ds, p, xs, e1, e2, n, hp, hl, hr⟩
  · cases r with
    | non => exact .base .non
    | bl b => exact .base (.bl b)
    | int i => exact .base (.int i)
    | str x => exact .base (.str x)
    | lst h1 h2 h3 => exact .base (.lst (le _ _ h1))
    | tup h1 h2 h3 =>
      rcases (h1.mono le).rd with e | ⟨o, e⟩
      · exact .base (.tup e)
      · exact .fTuple e
  · subst e1; subst e2
    exact .base (.lst hp)
def dIsi (t : Ty) (f : DD) : DD := fun env τ => bnd (f env τ) fun d τ1 => some (.bool (isB d t), τ1)
def dIsi2 (t u : Ty) (f : DD) : DD := fun env τ => bnd (f env τ) fun d τ1 => some (.bool (isB d t || isB d u), τ1)
section
variable {X : Cx} {e : Expr} {p p2 p3 pos tpos : Pos} {f : DD}
theorem jisi (t : Ty) (hm : X.mg "isinstance" = none) (hm2 : X.mg (Str.ofString (tyS t)) = none) (he : JR X e f) (hg : Gl X "isinstance" := by rfl) (hg2 : Gl X (Str.ofString (tyS t)) := by rfl)
    (h1 : starEach [e, .Name (Str.ofString (tyS t)) p2] X.env = (false, eval e X.env) :: starEach [.Name (Str.ofString (tyS t)) p2] X.env := by rfl) (h2 : starEach [.Name (Str.ofString (tyS t)) p2] X.env = (false, eval (.Name (Str.ofString (tyS t)) p2) X.env) :: starEach [] X.env := by rfl) (hpl : (backTo pos (starEach [.Name (Str.ofString (tyS t)) p2] X.env)).any (·.1) = false := by rfl) :
    JD X (.Call (.Name "isinstance" p) [e, .Name (Str.ofString (tyS t)) p2] [] pos) (dIsi t f) :=
  PEi (pe_callB call_isi hg hm (by decide +kernel) (pa_cons he (pa_cons (pe_bltn (v := .ty (tyS t)) (u := .type (tyS t)) hg2 hm2 (by cases t <;> decide +kernel) rfl (by cases t <;> decide) (by cases t <;> decide)) pa_nil h2) h1) (by decide) (by decide) h1 hpl) fun σ H Q ⟨g, Hs, env, τ, o, τ', r, hf, q⟩ => by
    obtain ⟨d, τ1, h1, h2⟩ := bnd_eq hf
    cases h2
    refine ⟨g, Hs, env, τ, d, _, r, h1, fun w Hs1 H1 u1 rv => ?_⟩
    exact ⟨w, .ty (tyS t), .type (kindS d), .type (tyS t), isB d t, rfl, .ty _, rdb_ty u1.le rv, kit_ty (kit_isB d t), q _ Hs1 H1 u1 (.bl _)⟩
theorem kit2 {K : PySem.W.Frag} (d : D) (t u : Ty) : PySem.W.kitAny K (.type (kindS d)) [.type (tyS t), .type (tyS u)] = some (isB d t || isB d u) := by
  refine kitAny_cons (kit_ty (kit_isB d t)) (fun e => ?_) fun e => by rw [e]; rfl
  rw [e]
  refine kitAny_cons (kit_ty (kit_isB d u)) (fun e => ?_) fun e => by rw [e]; rfl
  rw [e]
  exact kitAny_nil
theorem jisi2 {k : Nat} (t u : Ty) (hm : X.mg "isinstance" = none) (hm2 : X.mg (Str.ofString (tyS t)) = none) (hm3 : X.mg (Str.ofString (tyS u)) = none) (he : JR X e f) (hg : Gl X "isinstance" := by rfl) (hg2 : Gl X (Str.ofString (tyS t)) := by rfl) (hg3 : Gl X (Str.ofString (tyS u)) := by rfl)
    (h1 : starEach [e, .Tuple [.Name (Str.ofString (tyS t)) p2, .Name (Str.ofString (tyS u)) p3] k tpos] X.env = (false, eval e X.env) :: starEach [.Tuple [.Name (Str.ofString (tyS t)) p2, .Name (Str.ofString (tyS u)) p3] k tpos] X.env := by rfl)
    (h2 : starEach [.Tuple [.Name (Str.ofString (tyS t)) p2, .Name (Str.ofString (tyS u)) p3] k tpos] X.env = (false, eval (.Tuple [.Name (Str.ofString (tyS t)) p2, .Name (Str.ofString (tyS u)) p3] k tpos) X.env) :: starEach [] X.env := by rfl)
    (h3 : starEach [.Name (Str.ofString (tyS t)) p2, .Name (Str.ofString (tyS u)) p3] X.env = (false, eval (.Name (Str.ofString (tyS t)) p2) X.env) :: starEach [.Name (Str.ofString (tyS u)) p3] X.env := by rfl) (h4 : starEach [.Name (Str.ofString (tyS u)) p3] X.env = (false, eval (.Name (Str.ofString (tyS u)) p3) X.env) :: starEach [] X.env := by rfl)
    (hpl : (backTo pos (starEach [.Tuple [.Name (Str.ofString (tyS t)) p2, .Name (Str.ofString (tyS u)) p3] k tpos] X.env)).any (·.1) = false := by rfl) :
    JD X (.Call (.Name "isinstance" p) [e, .Tuple [.Name (Str.ofString (tyS t)) p2, .Name (Str.ofString (tyS u)) p3] k tpos] [] pos) (dIsi2 t u f) :=
  PEi (pe_callB call_isiT hg hm (by decide +kernel) (pa_cons he (pa_cons (pe_tup (pa_cons (pe_bltn (v := .ty (tyS t)) (u := .type (tyS t)) hg2 hm2 (by cases t <;> decide +kernel) rfl (by cases t <;> decide) (by cases t <;> decide)) (pa_cons (pe_bltn (v := .ty (tyS u)) (u := .type (tyS u)) hg3 hm3 (by cases u <;> decide +kernel) rfl (by cases u <;> decide) (by cases u <;> decide)) pa_nil h4) h3)) pa_nil h2) h1) (by decide) (by decide) h1 hpl) fun σ H Q ⟨g, Hs, env, τ, o, τ', r, hf, q⟩ => by
    obtain ⟨d, τ1, h1, h2⟩ := bnd_eq hf
    cases h2
    refine ⟨g, Hs, env, τ, d, _, r, h1, fun w Hs1 H1 u1 rv => ?_⟩
    refine ⟨by show 2 ≤ sizeLine; decide, fun T hT => ?_⟩
    have u2 := u1.mk1 (o := .tup [.ty (tyS t), .ty (tyS u)]) hT
    refine ⟨w, T, [.ty (tyS t), .ty (tyS u)], .type (kindS d), [.type (tyS t), .type (tyS u)], isB d t || isB d u, rfl, upd_same, .cons (.ty _) (.cons (.ty _) .nil), rdb_ty u2.le (rv.up ⟨.refl _, fun b o e n _ => by rw [upd_ne (ne_of_none e hT)]; exact e, fun b h => upd_none h, fun b o e n => (by rw [n] at e; cases e), u2.le, u2.tp⟩), kit2 d t u, q _ Hs1 _ u2 (.bl _)⟩
end
end Pv
namespace Pv
open PySem L2 PySem.Spec PyProof.Rows
variable [Tbl]
section
variable {X : Cx}
theorem ps_storeDc {i : Nat} {y : Str} {py : Pos} {kx vx tg iter : Expr} {ifs : List Expr} {scope : Scope} {own : List (Str × Nat)} {pos spos : Pos} {wi : TI} {g : TG} {tt : TT} {tk tv : TE} (hc : X.calm = true) (hN : X.N.Nodup) (hy : X.N[i]? = some y) (hyl : X.env.scope.names.lookup y = some .local)
    (hsw : swapsWith (.DictComp kx vx [⟨tg, iter, ifs, 0⟩] scope pos) (some (.Name y py)) spos.line X.env = pure true) (hi : PI X tg iter wi) (ok : BlkOk X.N X.env.scope scope own)
    (hg : ∀ (s : Shared) (H : Hp) (C : Addr) (cl : List (Str × Addr)) (fp : List Addr), PG (X.blk s H scope (compEnvC scope cl C X.env) fp) tg g) (ht : ∀ (s : Shared) (H : Hp) (C : Addr) (cl : List (Str × Addr)) (fp : List Addr), PTs (X.blk s H scope (compEnvC scope cl C X.env) fp) ifs tt)
    (hk : ∀ (s : Shared) (H : Hp) (C : Addr) (cl : List (Str × Addr)) (fp : List Addr), PE (X.blk s H scope (compEnvC scope cl C X.env) fp) kx tk)
    (he : ∀ (s : Shared) (H : Hp) (C : Addr) (cl : List (Str × Addr)) (fp : List Addr), PE (X.blk s H scope (compEnvC scope cl C X.env) fp) vx tv) (hs : ∀ x, foldedSetIterable iter X.env x = pure x) :
    PS X (.Assign [.Name y py] (.DictComp kx vx [⟨tg, iter, ifs, 0⟩] scope pos) spos) (tAsg (tDc wi g tt tk tv (own.map (·.2))) (gName i)) := by
  refine ⟨fun pins s σ H D I h => ?_⟩
  rw [exec_Assign_Name_used _ _ _ _ hsw]
  refine wpAny_bind (wpAny_standAt (wpAny_bind ?_))
  show wpAny _ X.A (do
    let _ ← comprehension (.DictComp kx vx [⟨tg, iter, ifs, 0⟩] scope pos) scope X.env (firstIterPos [⟨tg, iter, ifs, 0⟩] pos) newDict false (eval iter X.env) (some (assign (.Name y py) X.env))) _ _ s
  have h : tDc wi g tt tk tv (own.map (·.2)) σ H (fun x H1 => gName i x σ H1 D.nx) := h
  refine wpAny_bind (thn (dc_core (Qf := fun _ s' => SP X pins D .next s') hc hN I hi ok hg ht hk he hs h fun L C s' m H' I' q hn f => ?_) fun _ s' hq => wpAny_pure (wpAny_pure hq))
  show wpAny _ _ (assign (.Name y py) X.env (.ref L)) _ _ _
  refine wpAny_assign_Name (store_ok2 (v := V.ref L) I' hN hy (.inl hyl) rfl (fun s2 I2 ⟨a, sb, ha⟩ => ?_) (.inr hyl))
  obtain ⟨f0, f1, f2, f3, f4, f5⟩ := f
  have haC : C ≠ a := by
    rcases ha with z | z
    · rw [z]; exact f1
    · exact fun e => f4 y a z e.symm
  exact ⟨m, hn.sameBut sb haC, fun h3 sb3 => ⟨_, H', I2.turned (t' := s2.toks) (fun b o hb e => (sb3.2 b hb).trans e) f0 f1 f3 f4 f5, q⟩⟩
theorem sw_trueD {kx vx : Expr} {gs : List Comprehension} {scope : Scope} {pos py : Pos} {y : Str} {l : Nat} {env : Env} (hk : env.scope.kind = .function) (hy : env.scope.names.lookup y = some .local) (hl : (py.line == pos.line) = true)
    (ha : (scope.names.any fun (n, k) => n == y && (k == .local || k == .cell)) = false) : swapsWith (.DictComp kx vx gs scope pos) (some (.Name y py)) l env = pure true := by
  have k1 : env.kindOf y = some .local := hy
  have k2 : env.blockKind = .function := by unfold Env.blockKind; rw [hk]; rfl
  unfold swapsWith
  simp only [k2, k1, ha, Expr.pos, hl]
  rfl
theorem js_asgDO {i : Nat} {y : Str} {py pos spos : Pos} {kx vx tg iter : Expr} {ifs : List Expr} {scope : Scope} {own : List (Str × Nat)} {is : List Nat} {it : DI} {b : DG} {c : DT} {k ed : DD} (hN : X.N.Nodup) (hi : JC X tg iter it) (ok : BlkOk X.N X.env.scope scope own)
    (hg : ∀ (s : Shared) (H : Hp) (C : Addr) (cl : List (Str × Addr)) (fp : List Addr), JG (X.blk s H scope (compEnvC scope cl C X.env) fp) tg is b)
    (ht : ∀ (s : Shared) (H : Hp) (C : Addr) (cl : List (Str × Addr)) (fp : List Addr), JTs (X.blk s H scope (compEnvC scope cl C X.env) fp) ifs c)
    (hk : ∀ (s : Shared) (H : Hp) (C : Addr) (cl : List (Str × Addr)) (fp : List Addr), JD (X.blk s H scope (compEnvC scope cl C X.env) fp) kx k)
    (he : ∀ (s : Shared) (H : Hp) (C : Addr) (cl : List (Str × Addr)) (fp : List Addr), JD (X.blk s H scope (compEnvC scope cl C X.env) fp) vx ed)
    (hsw : swapsWith (.DictComp kx vx [⟨tg, iter, ifs, 0⟩] scope pos) (some (.Name y py)) spos.line X.env = pure true := by exact sw_trueD rfl rfl rfl (by decide +kernel))
    (his : ∀ i ∈ is, i ∈ own.map (·.2) := by decide) (hc : X.calm = true := by rfl) (hs : ∀ x, foldedSetIterable iter X.env x = pure x := by intro _; rfl) (hy : X.N[i]? = some y := by rfl) (hyl : X.env.scope.names.lookup y = some .local := by rfl) :
    JS X (.Assign [.Name y py] (.DictComp kx vx [⟨tg, iter, ifs, 0⟩] scope pos) spos) (sAsgO i (dDc (own.map (·.2)) it b c k ed)) := PSi (ps_storeDc hc hN hy hyl hsw hi ok hg ht hk he hs) (asgO_run (dc_run his))
/-- a, b, c = x, y, z: three plain locals -/
theorem js_par3 {i j l : Nat} {x y z : Str} {a b c : Expr} {f : DW} {px py pz pt pos : Pos} {kt k2 : Nat} {pt2 : Pos} (hN : X.N.Nodup) (ha : JWs X [a, b, c] f) (hi : X.N[i]? = some x := by rfl) (hj : X.N[j]? = some y := by rfl) (hl : X.N[l]? = some z := by rfl) (hij : i ≠ j := by decide) (hil : i ≠ l := by decide) (hjl : j ≠ l := by decide)
    (hx : X.env.scope.names.lookup x = some .local := by rfl) (hy : X.env.scope.names.lookup y = some .local := by rfl) (hz : X.env.scope.names.lookup z = some .local := by rfl)
    (hw : swappedStores [.Tuple [.Name x px, .Name y py, .Name z pz] kt pt] (.Tuple [a, b, c] k2 pt2) X.env = pure (some [x, y, z]) := by rfl) (hs : swapsWithSole [.Tuple [.Name x px, .Name y py, .Name z pz] kt pt] (.Tuple [a, b, c] k2 pt2) pos.line X.env = pure false := by rfl) (hc : X.calm = true := by rfl) :
    JS X (.Assign [.Tuple [.Name x px, .Name y py, .Name z pz] kt pt] (.Tuple [a, b, c] k2 pt2) pos) (sPar [i, j, l] f) := PSi (ps_par3 hc hN hi hj hl hij hil hjl hx hy hz ha hw hs) fun E σ H ⟨g, Hs, env, τ, o, τ', r, hf, q⟩ => by
  obtain ⟨vs, τ1, h1, h2⟩ := bnd_eq hf
  split at h2
  · rename_i hl
    cases h2
    refine ⟨g, Hs, env, τ, vs, _, r, h1, fun ws Hs1 H1 u1 rv ap => ?_⟩
    have hr := par_rel (is := [i, j, l]) r u1 (Up.refl u1.le u1.tp) rv ap
    cases rv with
    | nil => cases hl
    | cons a b =>
      cases b with
      | nil => cases hl
      | cons a2 b2 =>
        cases b2 with
        | nil => cases hl
        | cons a3 b3 =>
          cases b3 with
          | nil => exact ⟨_, _, _, rfl, q _ Hs1 H1 u1.s hr⟩
          | cons _ _ => cases hl
  · cases h2
end
/-! ### the law -/
def spLaw (K : PySem.W.Frag) : Sp := fun vs H Q _ => ∃ (a : Addr) (ns : List Int), vs = [.ref a] ∧ SqL K H a (ns.map V.int) ∧ ns.length ≤ 63 ∧ LamX.Tabs Tbl.T H ∧ ∀ H', Q (.bl true) H'
/-- the names of the law once its tape stands: slot 1 -/
def lawE (n : Nat) : Ev := (List.replicate n none).set 1 (some .tp)
abbrev tListC (K : PySem.W.Frag) : TE := tCB (fun xs H Q => ∃ p ys, xs = [.ref p] ∧ (SqL K H p ys ∨ SqT K H p ys) ∧ ∀ l, H l = none → Q (.ref l) (upd H l (.lst ys))) (tCons (tVar 0) tNil)
/-- tape = [list(script), 0, 0], then the rest -/
theorem law_start {K : PySem.W.Frag} {N : List Str} {H : Hp} {Q : VK} {E : XK} {vs : List V} {b : DS} (hN : 2 ≤ N.length) (h : spLaw K vs H Q E)
    (hb : ∀ ns : List Int, ns.length ≤ 63 → ∃ τ', b (lawE N.length) ⟨ns, 0, 0⟩ = some (.rt (.sh (.bool true)), τ')) :
    tSeq (tAsg (tLst (tCons (tListC K) (tCons (tC (.int 0)) (tCons (tC (.int 0)) tNil)))) (gName 1)) (tS b) { nx := fun _ H' => Q .non H', rt := Q } (start N vs) H := by
  obtain ⟨a, ns, rfl, hS, hl, tb, q⟩ := h
  obtain ⟨τ', hb⟩ := hb ns hl
  refine ⟨.ref a, rfl, a, ns.map V.int, rfl, .inl hS, fun aS nS => ⟨by show 3 ≤ sizeLine; decide, fun aT nT => ?_⟩⟩
  have ne : aT ≠ aS := fun e => by rw [e, upd_same] at nT; cases nT
  have hN1 : 1 < (start N [V.ref a]).length := by
    unfold L2.start
    rw [List.length_append, List.length_replicate]
    show 1 < 1 + (N.length - 1)
    omega
  have hlen : (lawE N.length).length = N.length := by unfold lawE; rw [List.length_set, List.length_replicate]
  have hl2 : (start N [V.ref a]).length = N.length := by
    unfold L2.start
    rw [List.length_append, List.length_replicate]
    show 1 + (N.length - 1) = N.length
    omega
  have slot : ∀ (i : Nat) v, (lawE N.length)[i]? = some (some v) → i = 1 ∧ v = .tp := fun i v e => by
    unfold lawE at e
    by_cases hi : 1 = i
    · subst hi
      rw [List.getElem?_set_self (by rw [List.length_replicate]; omega)] at e
      cases e
      exact ⟨rfl, rfl⟩
    · rw [List.getElem?_set_ne hi, List.getElem?_replicate] at e
      split at e <;> cases e
  refine ⟨⟨fun _ => none, upd (fun _ => none) aS (.lst (ns.map V.int)), aT, aS⟩, upd (fun _ => none) aS (.lst (ns.map V.int)), lawE N.length, ⟨ns, 0, 0⟩, _, τ', ⟨fun b o e => ?_, ⟨tabs_new (tabs_new tb nS _) nT _, fun p hp => (by
    rw [upd_ne]
    intro e
    obtain ⟨ps, h1, _⟩ := tb p hp
    rw [e, nS] at h1; cases h1), upd_same, upd_ne ne, upd_same, hl⟩, .refl _, (fun b o e _ _ => (by cases e)), (fun b _ => rfl), fun b o e n => rfl, fun i v e => ?_, fun i v p e ho => ?_, fun i j v v' p e e' ho => ?_, ?_⟩, hb, ?_⟩
  · by_cases hb : b = aS
    · subst hb
      rw [upd_same] at e; cases e
      rw [upd_ne ne.symm, upd_same]
    · rw [upd_ne hb] at e; cases e
  · obtain ⟨rfl, rfl⟩ := slot i v e
    exact ⟨.ref aT, List.getElem?_set_self hN1, rfl⟩
  · obtain ⟨rfl, rfl⟩ := slot i v e
    cases ho
  · obtain ⟨rfl, rfl⟩ := slot i v e
    cases ho
  · rw [hlen, List.length_set]; exact hl2.symm
  · intro w Hs' H' _ r rv _
    cases rv
    exact q H'
end Pv
namespace Pv
open PySem L2 PySem.Spec PyProof.Rows
variable [Tbl]
/-- the def of that name stands -/
def Fd (K : PySem.W.Frag) (mg : Str → Option Value) (x : Str) (st : Stmt) (ps : List Str) : Prop := ∃ f fd, mg x = some (.ref f) ∧ Fun K x x st f fd ∧ Binds K fd ps []
section
variable {P : Program} {w : World} {K : PySem.W.Frag} {mg : Str → Option Value} {base : Heap} {x : Str} {st : Stmt} {N ps : List Str} {k i : Nat} {tb : Nat → Option Df}
theorem has_zero (F : Fd K mg x st ps) (np : Nat) (hn : ps.length = np) (hp : ps = (defArgs st).args.map (·.arg) := by rfl) : Has P w K mg base 0 x np (callK tb 0 i) := by
  obtain ⟨f, fd, hm, Fn, hb⟩ := F
  subst hn
  exact has_none hm Fn hb (fun _ _ => rfl) hp
theorem has_step {b : (Nat → Cal) → DS} (F : Fd K mg x st ps) (S : FnScope N ps (defScope st)) (np nn : Nat) (hn : ps.length = np) (hN : N.length = nn) (ht : tb i = some ⟨np, nn, b⟩)
    (hbody : ∀ (f : Addr) (cdv : Value) (A : Around) (outer : List PySem.Env) (s : Shared) (H : Hp) (E : XK), Room k (A.deeper (envOfC x (defScope st) s.heap.objs.size f cdv)) → JSs (cxOf CX0 P w K mg base N x (defScope st) f cdv A outer s H E).nox (defBody st) (b (callK tb k))) (hp : ps = (defArgs st).args.map (·.arg) := by rfl) : Has P w K mg base (k + 1) x np (callK tb (k + 1) i) := by
  obtain ⟨f, fd, hm, Fn, hb⟩ := F
  subst hn; subst hN
  rw [callK_succ ht]
  exact has_def hm Fn S hb (hbody f) hp
theorem fd_mk {f : Addr} {h : Heap} {oc : Value} {od an : Option Addr} {osl : Array (Option Value)} {kV doc pm cdv ct : Value} (X : K.In h) (G : h.Ns mainGlobals mg) (a : PySem.W.nsIn K mainGlobals x = some (some (.ref f)))
    (l : K.lookup f = some ⟨oc, od, .func (PySem.W.fnOf x x (defArgs st) (defBody st) (defScope st) .none kV doc pm an cdv ct), osl⟩) (c : PySem.W.codeIn K cdv x = true) (kp : PySem.W.keepIn K (.ref f) = true)
    (h : ∀ (kV doc pm : Value) (an : Option Addr) (cdv ct : Value) (us : List Value), us.length = ps.length → bindArgs (PySem.W.fnOf x x (defArgs st) (defBody st) (defScope st) .none kV doc pm an cdv ct) ⟨us, []⟩ = pure (ps.zip us)) : Fd K mg x st ps :=
  ⟨f, _, PySem.W.mg_of X G a, fun_mk l c kp, (fun_mk l c kp).binds h⟩
end
end Pv
namespace Pv
open PySem L2 PySem.Spec PyProof.Rows
variable [Tbl]
theorem fm_congr {α β : Type} {f g : α → Option β} : ∀ {l : List α}, (∀ x ∈ l, f x = g x) → l.filterMap f = l.filterMap g
  | [], _ => rfl
  | x :: l, h => by
    rw [List.filterMap_cons, List.filterMap_cons, h x List.mem_cons_self, fm_congr fun y hy => h y (List.mem_cons_of_mem _ hy)]
section
variable {prog : Program} {w : World} {A : Around} {E : Value → Shared → Prop} {s : Shared}
theorem applied_rev {sl : Addr} {vl vu vs : Value} {n : Nat} {Q : Int × Int × Nat → Shared → Prop} (hs : s.heap.IsSliceOf sl vl vu vs) (pl : IsPart vl none) (pu : IsPart vu none) (ps : IsPart vs (some (-1))) (h : Q ((n : Int) - 1, -1, n) s) :
    wpAny (model prog w) A (Builtin.Slice.sliceApplied (.ref sl) (pure (n : Int))) Q E s := by
  obtain ⟨os, hos, hcs, hds⟩ := id hs
  unfold Builtin.Slice.sliceApplied Builtin.Slice.sliceFields
  refine wpAny_bind (wpAny_bind (wpAny_field hos hds (x := vl) rfl (wpAny_bind (wpAny_field hos hds (x := vu) rfl (wpAny_bind (wpAny_field hos hds (x := vs) rfl (wpAny_pure ?_)))))))
  refine wpAny_bind (HT.slicePart_ ps ?_)
  show wpAny _ _ (if ((-1 : Int) == 0) = true then _ else _) _ _ s
  rw [if_neg (by decide)]
  refine wpAny_bind (HT.slicePart_ pl (wpAny_bind (HT.slicePart_ pu (wpAny_bind (wpAny_pure ?_)))))
  show wpAny _ _ (pure ((n : Int) - 1, (-1 : Int), Builtin.Slice.slicePlaces ((n : Int) - 1) (-1) (-1))) _ _ s
  have e : Builtin.Slice.slicePlaces ((n : Int) - 1) (-1) (-1) = n := by
    unfold Builtin.Slice.slicePlaces
    simp only [show ¬ ((-1 : Int) > 0) by omega, if_false]
    split
    · rw [show -(-1 : Int) = 1 by omega, Int.ediv_one]; omega
    · omega
  rw [e]
  exact wpAny_pure h
theorem pick_rev (xs : Array Value) : ((List.range xs.size).filterMap fun (k : Nat) => xs[(((xs.size : Int) - 1) + (k : Int) * (-1)).toNat]?).toArray = xs.toList.reverse.toArray := by
  have e : (List.range xs.size).filterMap (fun (k : Nat) => xs[(((xs.size : Int) - 1) + (k : Int) * (-1)).toNat]?) = ((List.range xs.size).map fun k => xs.size - 1 - k).filterMap (xs[·]?) := by
    rw [List.filterMap_map]
    refine fm_congr fun k hk => ?_
    have := List.mem_range.mp hk
    show xs[(((xs.size : Int) - 1) + (k : Int) * (-1)).toNat]? = xs[xs.size - 1 - k]?
    rw [show (((xs.size : Int) - 1) + (k : Int) * (-1)).toNat = xs.size - 1 - k by omega]
  rw [e, PySem.W.krv_range, List.filterMap_reverse, PySem.W.krv_all]
theorem getItem_tuple_rev {t sl : Addr} {items : Array Value} {vl vu vs : Value} {Q : Value → Shared → Prop} (ht : IsTup s.heap t items) (hs : s.heap.IsSliceOf sl vl vu vs) (pl : IsPart vl none) (pu : IsPart vu none) (ps : IsPart vs (some (-1)))
    (h : Q (.ref s.heap.objs.size) { s with heap := s.heap.push { cls := .type "tuple", data := .seq items.toList.reverse.toArray } }) (hsz : items.size ≤ sizeLine) : wpAny (model prog w) A (getItem (.ref t) (.ref sl)) Q E s := by
  have hok : sizeOk (.seq items.toList.reverse.toArray) := by
    show items.toList.reverse.toArray.size ≤ sizeLine
    rw [List.size_toArray, List.length_reverse, Array.length_toList]
    exact hsz
  obtain ⟨os, hos, hcs, hds⟩ := id hs
  have hTs : s.TypeIs (.ref sl) "slice" := ⟨os, hos, hcs⟩
  unfold getItem
  try with_reducible refine wpAny_holding ?_
  first | refine wpAny_bind (wpAny_pure ?_) | skip
  refine wpAny_bind (wpAny_sequenceKey ht.typeIs (by decide) ?_)
  refine wpAny_bind (wpAny_callSpecial?_slot (name := Str.ofString "__getitem__") ht.typeIs PyProof.Rows.slot_tuple_getitem
    (wpAny_call_entry PyProof.Rows.slot_tuple_getitem ht.typeIs entry_tuple_getitem ?_ (args_tuple_getitem _ _)))
  show wpAny _ _ (Builtin.Tuple.tupleItemsOf (.ref t) >>= _) _ _ s
  refine wpAny_bind (tupleItemsOf_ ht ?_)
  refine wpAny_bind (wpAny_typeOf hTs ?_)
  rw [if_pos (by decide)]
  refine wpAny_bind (applied_rev hs pl pu ps ?_)
  show wpAny _ _ (if (((items.size : Int) - 1) == 0 && (-1 : Int) == 1 && items.size == items.size) = true then _ else _) _ _ s
  rw [if_neg (by simp), pick_rev]
  first
    | exact wpAny_bind (m := Builtin.Tuple.tupleExact _) (wpAny_newObj_type (wpAny_pure ⟨_, rfl, wpAny_pure h⟩) hok)
    | exact wpAny_bind (m := Builtin.Tuple.tupleExact _) (wpAny_newObj_type (wpAny_bind (wpAny_pure (wpAny_pure ⟨_, rfl, wpAny_pure h⟩))) hok)
    | exact wpAny_bind (wpAny_bind (m := Builtin.Tuple.tupleExact _) (wpAny_newObj_type (wpAny_pure (wpAny_pure ⟨_, rfl, wpAny_pure h⟩)) hok))
    | exact wpAny_bind (wpAny_bind (m := Builtin.Tuple.tupleExact _) (wpAny_newObj_type (wpAny_pure ⟨_, rfl, wpAny_pure h⟩) hok))
end
section
variable {X : Cx}
def tRevA (K : PySem.W.Frag) (te : TE) : TE := fun σ H Q => te σ H fun x H1 => (∃ a xs, x = .ref a ∧ SqL K H1 a xs ∧ ∀ p, H1 p = none → Q (.ref p) (upd H1 p (.lst xs.reverse))) ∨ ∃ a xs, x = .ref a ∧ SqT K H1 a xs ∧ NewT xs.reverse H1 Q
theorem pe_revA {e : Expr} {te : TE} {k : Nat} {p1 p2 p3 pos : Pos} (he : PE X e te) : PE X (.Subscript e (.Slice none none (some (.UnaryOp .USub (.Constant (.int 1) k p1) p2)) p3) pos) (tRevA X.K te) := by
  refine ⟨fun pins s σ H Q I h => ?_⟩
  refine Subscript_ (thn (he.run pins s σ H _ I h) fun v s1 ⟨x, H1, I1, r1, q1⟩ => ?_)
  have hst : PO X (some (.UnaryOp .USub (.Constant (.int 1) k p1) p2)) (tPart (tUn (rU fun i => .int (-i)) (tC (.int 1)))) := po_some (pe_un un_neg pe_int)
  refine wpAny_Slice (thn (po_none.run pins s1 σ H1 (fun o H2 => o = none ∧ H2 = H1) I1 ⟨rfl, rfl⟩) fun vl s2 ⟨l, H2, I2, pl, el, e2⟩ => ?_)
  subst el e2
  refine thn (po_none.run pins s2 σ H2 (fun o H3 => o = none ∧ H3 = H2) I2 ⟨rfl, rfl⟩) fun vu s3 ⟨u, H3, I3, pu, eu, e3⟩ => ?_
  subst eu e3
  refine thn (hst.run pins s3 σ H3 (fun o H4 => o = some (-1) ∧ H4 = H3) I3 ⟨1, rfl, -1, rfl, rfl, rfl⟩) fun vs s4 ⟨o, H4, I4, ps, eo, e4⟩ => ?_
  subst eo e4
  have I5 : Inv X pins σ H4 { s4 with heap := s4.heap.push { cls := .type "slice", data := .fields #[vl, vu, vs] } } := I4.kept (t' := s4.toks) fun b ob q => Heap.get?_push_of_some _ q
  rcases q1 with ⟨a, xs, ex, hx, q⟩ | ⟨a, xs, ex, hx, q⟩
  · subst ex
    cases r1
    obtain ⟨its, r, ht, hz⟩ := I5.list hx
    have hlen := r.length
    show wpAny (model X.prog X.w) X.A (subscriptTail e (.Slice none none (some (.UnaryOp .USub (.Constant (.int 1) k p1) p2)) p3) (.ref a) (.ref s4.heap.objs.size)) (EP X pins σ Q) X.xe { s4 with heap := s4.heap.push { cls := .type "slice", data := .fields #[vl, vu, vs] } }
    refine tail_any (ops := [.ref a, .ref s4.heap.objs.size]) ht.isList.typeIs (PySem.slot_list_getitem.lookup) ?_ (by with_unfolding_all rfl)
    refine wpAny_getItem_list_slice ht.isList (Heap.IsSliceOf.new _ vl vu vs) pl pu ps (by decide) ?_ (by rw [List.size_toArray]; omega)
    rw [PySem.W.krv_pick]
    exact ⟨.ref _, _, I5.laid (t' := s4.toks) (o := .lst xs.reverse) (fun b ob q => Heap.get?_push_of_some _ q) (Nat.le_refl _) ⟨by rw [List.length_reverse]; exact hz, _, 0, r.reverse, Heap.get?_push_size _ rfl⟩, rfl, q _ (I5.hok.fresh (Nat.le_refl _))⟩
  · subst ex
    cases r1
    obtain ⟨its, r, ht, hz⟩ := I5.tuple hx
    have hlen := r.length
    show wpAny (model X.prog X.w) X.A (subscriptTail e (.Slice none none (some (.UnaryOp .USub (.Constant (.int 1) k p1) p2)) p3) (.ref a) (.ref s4.heap.objs.size)) (EP X pins σ Q) X.xe { s4 with heap := s4.heap.push { cls := .type "slice", data := .fields #[vl, vu, vs] } }
    refine tail_any (ops := [.ref a, .ref s4.heap.objs.size]) ht.typeIs (PyProof.Rows.slot_tuple_getitem.lookup) ?_ (by with_unfolding_all rfl)
    refine getItem_tuple_rev ht (Heap.IsSliceOf.new _ vl vu vs) pl pu ps ?_ (by rw [List.size_toArray]; omega)
    exact NewT.at I5 (t := s4.toks) (fun b ob q => Heap.get?_push_of_some _ q) (Nat.le_refl _) (Heap.get?_push_size _ rfl) r.reverse (by rw [List.length_reverse]; exact hz) q
end
def dRev (f : DD) : DE := fun env τ => bnd (f env τ) fun x τ1 => match x with
  | .list xs => some (.ow xs.reverse, τ1)
  | .tuple xs => some (.sh (.tuple xs.reverse), τ1)
  | _ => none
theorem jrev {X : Cx} {e : Expr} {k : Nat} {p1 p2 p3 pos : Pos} {f : DD} (he : JR X e f) : JV X (.Subscript e (.Slice none none (some (.UnaryOp .USub (.Constant (.int 1) k p1) p2)) p3) pos) (dRev f) :=
  PEi (pe_revA he) fun σ H Q ⟨g, Hs, env, τ, v, τ', r, hf, q⟩ => by
    obtain ⟨x, τ1, h1, h2⟩ := bnd_eq hf
    refine ⟨g, Hs, env, τ, x, τ1, r, h1, fun w Hs1 H1 u1 rw1 => ?_⟩
    split at h2
    · cases h2
      obtain ⟨p, xs, rfl, hp, hl, hr⟩ := rw1.list u1.le
      refine .inl ⟨p, xs, rfl, .of hp, fun l hl' => ?_⟩
      exact q _ Hs1 _ (u1.mk1 hl') ⟨l, _, rfl, u1.neT hl', u1.freeS hl', upd_same, by rw [List.length_reverse]; exact hl, hr.rev⟩ fun _ p' e => by cases e; exact u1.old hl'
    · rename_i ys
      cases h2
      obtain ⟨p, xs, rfl, hp, hl, hr⟩ := rw1.tuple
      refine .inr ⟨p, xs, rfl, (hp.mono u1.le).sq, cmL ys.reverse, fun l o hl' ho => ?_⟩
      exact q _ (upd Hs1 l (tupO _ o xs.reverse)) _ (u1.new hl') (.tup ⟨o, ho, upd_same⟩ (by rw [List.length_reverse]; exact hl) (hr.rev.to (same_upd (u1.freeS hl')))) fun z => by cases z
    · cases h2
end Pv
namespace Pv
open PySem L2 PySem.Spec PyProof.Rows
variable [Tbl]
open AutoSeq1 (wpAny_loadPart')
set_option maxHeartbeats 1000000 in
theorem meets_enum1 {v : Value} {o : Obj} {H : Heap → Prop} (B : Begins v o H) :
    Meets (Builtin.«enumerate.__new__» ⟨[.type "enumerate", v], []⟩) (fun _ R s => H s.heap ∧
      R (.ok (.ret (.ref (s.heap.push o).objs.size))) { s with heap := (s.heap.push o).push { cls := .type "enumerate", data := .fields #[.none, .bool false, .ref s.heap.objs.size, rawInt 0, .none, .none] } }) :=
  .of_wp fun prog w A R s h => by
    obtain ⟨hp, g, d, tk, os⟩ := s; obtain ⟨h1, h⟩ := h
    have hsub := sub_enumerate
    have q1 : ∀ {A' : Around} {E : Value → Shared → Prop} {Q : Value → Shared → Prop}, Q (.ref hp.objs.size) ⟨hp.push o, g, d, tk, os⟩ → wpAny (model prog w) A' (pyIter v) Q E ⟨hp, g, d, tk, os⟩ :=
      fun q => B.iter prog w _ _ ⟨hp, g, d, tk, os⟩ _ h1 q
    wp_walk using q1
    refine wpAny_stack_any fun st => wpAny_pure ?_
    split
    · rename_i c _ _ _ _ _
      cases (c == Value.type "enumerate")
      · wp_walk using q1
        exact ⟨_, rfl, h⟩
      · wp_walk using q1
        exact ⟨_, rfl, h⟩
    · wp_walk using q1
      exact ⟨_, rfl, h⟩
section
variable {prog : Program} {w : World} {A : Around} {E : Value → Shared → Prop} {s : Shared}
theorem enum1_begins {v : Value} {o : Obj} {H : Heap → Prop} {Q : Value → Shared → Prop} (B : Begins v o H) (h1 : H s.heap)
    (h : ∀ h', IsEnum h' (s.heap.objs.size + 1) s.heap.objs.size 0 .none → h'.get? s.heap.objs.size = some o → (∀ b o, s.heap.get? b = some o → h'.get? b = some o) → Q (.ref (s.heap.objs.size + 1)) { s with heap := h' }) :
    wpAny (model prog w) A (call (.type "enumerate") [v]) Q E s := by
  refine callType_new F.called_enumerate (by decide) (F.typeCall_enumerate_1 _) (F.newCall_enumerate_1 _) (fun obj => F.args_object_init_2 obj _) F.entry_enumerate_new (meets_enum1 B) ⟨h1, ?_⟩
  have hz : (s.heap.push o).objs.size = s.heap.objs.size + 1 := Heap.size_push ..
  show _ ∧ _
  rw [hz]
  have he : IsEnum ((s.heap.push o).push { cls := .type "enumerate", data := .fields #[.none, .bool false, .ref s.heap.objs.size, rawInt 0, .none, .none] }) (s.heap.objs.size + 1) s.heap.objs.size 0 .none := by
    have := Heap.get?_push_size (s.heap.push o) (o := { cls := .type "enumerate", data := .fields #[.none, .bool false, .ref s.heap.objs.size, rawInt 0, .none, .none] }) rfl
    rw [hz] at this; exact this
  exact ⟨⟨_, he, rfl⟩, h _ he (Heap.get?_push_of_some _ (Heap.get?_push_size _ B.free)) fun b o x => Heap.get?_push_of_some _ (Heap.get?_push_of_some _ x)⟩
end
def IteB (K : PySem.W.Frag) (ba : Bool) (a : Addr) : It :=
  ⟨fun i H => ∃ (xs : List V) (x : V), SqB K ba H a xs ∧ xs[i]? = some x,
    fun i H v H' => ∃ T x, v = .ref T ∧ H T = none ∧ H' = upd H T (.tup [.int (i : Nat), x]) ∧ ∀ xs, SqB K ba H a xs → xs[i]? = some x,
    fun i H => ∃ xs : List V, SqB K ba H a xs ∧ i = xs.length⟩
theorem turn_enumB {P : Program} {w : World} {K : PySem.W.Frag} {elts : List Expr} {kk : Nat} {tpos : Pos} {ba : Bool} {a e it : Addr} (na : a ≠ it) (nea : e ≠ a) :
    Turn P w K (.Tuple elts kk tpos) (IteB K ba a) [e, it] e (fun i h => (∃ old, IsEnum h e it ((i : Nat) : Int) old) ∧ ItB ba h it a i ∧ e ≠ it) where
  mem := by simp
  obj := fun i h st b hb => by
    obtain ⟨⟨old, he⟩, hi, _⟩ := st
    have e' : b = e ∨ b = it := by simpa using hb
    rcases e' with rfl | rfl
    · exact ⟨_, he, fun v q => nomatch q⟩
    · exact hi.obj
  keep := fun i h h' st k => let ⟨⟨old, he⟩, hi, hne⟩ := st; ⟨⟨old, k e (by simp) _ he⟩, hi.at fun o q => k it (by simp) o q, hne⟩
  item := by
    intro X hP hw hK hc i pins s σ H E I hf st hg
    subst hP hw hK
    obtain ⟨⟨old, he⟩, hit, hne⟩ := st
    obtain ⟨xs, x, hq, hx⟩ := hg
    obtain ⟨its, rv, p, la⟩ := hq.arr I
    obtain ⟨u, hu, ru⟩ := rv.get hx
    have hel : e < s.heap.objs.size := Heap.lt_size he
    have hil : it < s.heap.objs.size := by obtain ⟨_, q, _⟩ := hit.obj; exact Heap.lt_size q
    have li : i < its.toArray.size := by
      have := (List.getElem?_eq_some_iff.mp hu).1
      simpa using this
    refine wpAny_pyNext_enum_itemC (drawsB (A := X.A.in1) (I.ok.hd hc) ba it a na its.toArray) he ⟨hit, p⟩ li hne (by simp; exact ⟨hne, nea⟩) fun v1 h' tk e1 ho d1 hT hsz hk => ?_
    have ev1 : v1 = u := by
      have : its[i]? = some v1 := by simpa using e1
      rw [hu] at this; cases this; rfl
    subst ev1
    refine ⟨_, rfl, wpAny_letOwnedTupleGo_enum (s := { s with heap := h', toks := tk + 1 }) ho fun h'' he' sb => ?_⟩
    have hT2 : h''.get? s.heap.objs.size = some { cls := .type "tuple", data := .seq #[.int i tk, v1] } := (sb.2 _ (Nat.ne_of_gt hel)).trans hT
    have new : ObjOk X.prog X.w (upd H s.heap.objs.size (.tup [.int (i : Nat), x])) h'' s.heap.objs.size (.tup [.int (i : Nat), x]) :=
      ⟨by show 2 ≤ sizeLine; decide, [.int i tk, v1], .cons ⟨_, rfl⟩ (.cons ru .nil), ⟨_, hT2, rfl, _, rfl⟩⟩
    have I1 : Inv X pins σ (upd H s.heap.objs.size (.tup [.int (i : Nat), x])) { s with heap := h'', toks := tk + 1 } :=
      I.turnedNew (t' := tk + 1) (ch := [e, it]) (fun b ob hb q => (sb.2 b (fun z => hb (by simp [z]))).trans (hk b ob (fun z => hb (by simp [z])) (fun z => hb (by simp [z])) q)) hf (Nat.le_refl _) new
    refine ⟨.ref s.heap.objs.size, _, I1, rfl, ⟨_, x, rfl, I.hok.fresh (Nat.le_refl _), rfl, fun ys hy => by rw [hy.inj I hq]; exact hx⟩, ⟨⟨v1, ?_⟩, d1.1.at fun o q => (sb.2 it (Ne.symm hne)).trans q, hne⟩, fun b hb => ?_⟩
    · have e1 : ((i + 1 : Nat) : Int) = (i : Int) + 1 := by omega
      rw [e1]; exact he'
    · have hb' : b < s.heap.objs.size := by
        have e' : b = e ∨ b = it := by simpa using hb
        rcases e' with z | z
        · rw [z]; exact hel
        · rw [z]; exact hil
      rw [upd_ne (Nat.ne_of_lt hb')]
      exact (hf b hb).1
  done := by
    intro X hP hw hK hc i pins s σ H E I hf st hg
    subst hP hw hK
    obtain ⟨⟨old, he⟩, hit, hne⟩ := st
    obtain ⟨xs, hq, hx⟩ := hg
    obtain ⟨its, rv, p, _⟩ := hq.arr I
    obtain ⟨f0, f1, f2, f3, f4, f5⟩ := hf it (by simp)
    have hl := rv.length
    have hi : i = its.toArray.size := by rw [List.size_toArray]; omega
    subst hi
    exact wpAny_pyNext_enum_endD (drawsB (A := X.A.in1) (I.ok.hd hc) ba it a na its.toArray) he ⟨hit, p⟩ fun h' eb => ⟨rfl, I.turned (t' := s.toks) (fun b o hb q => eb b o hb q) f0 f1 f3 f4 f5⟩
  self := fun A i s Q E st h => let ⟨⟨_, he⟩, _⟩ := st; wpAny_pyIter_enum he h
theorem walk_enumB {K : PySem.W.Frag} {ba : Bool} {a : Addr} {xs : List V} : Walk (IteB K ba a) xs.length (fun H => SqB K ba H a xs) (YPair (fun i => some (.int (i : Nat))) (fun i => xs[i]?)) := by
  refine ⟨fun i _ hi q => ⟨xs, xs[i], q, List.getElem?_eq_getElem hi⟩, fun _ q => ⟨xs, q, rfl⟩, fun i H v H' _ q y => ?_⟩
  obtain ⟨T, x, h1, h2, h3, h4⟩ := y
  exact ⟨T, .int (i : Nat), x, h1, h2, h3, rfl, h4 xs q⟩
def iEnumB (K : PySem.W.Frag) (ta : TA) : TI := fun σ H R => ta σ H fun vs H1 => ∃ a ba xs, vs = [.ref a] ∧ SqB K ba H1 a xs ∧ R (IteB K ba a) H1
theorem pi_enumB {X : Cx} {e : Expr} {ta : TA} {p pos tpos : Pos} {elts : List Expr} {kk : Nat} (hg : Gl X "enumerate") (hm : X.mg "enumerate" = none) (ha : PA X [e] ta) (hs : starEach [e] X.env = (false, eval e X.env) :: starEach [] X.env := by rfl) (hpl : (backTo pos (starEach [] X.env)).any (·.1) = false := by rfl) :
    PI X (.Tuple elts kk tpos) (.Call (.Name "enumerate" p) [e] [] pos) (iEnumB X.K ta) := by
  refine ⟨fun pins s σ H R I h => ?_⟩
  refine Call_ (ld_blt I hg hm boot_enumerate (PyProof.Rows.callWith_type1 (thn (ha.run pos pins s σ H _ I h) fun us s1 ⟨vs, H1, I1, r1, q1⟩ => ?_) hs hpl))
  obtain ⟨a, ba, xs, ex, hq, q⟩ := q1
  subst ex
  cases r1 with
  | cons r rr =>
    cases rr
    cases r
    obtain ⟨its, rv, p', la⟩ := hq.arr I1
    refine enum1_begins (beginsB ba a its.toArray) p' fun h' he hit hk => wpAny_pyIter_enum he ?_
    have I2 : Inv X pins σ H1 { s1 with heap := h' } := I1.kept (t' := s1.toks) hk
    refine ⟨s1.heap.objs.size + 1, [s1.heap.objs.size + 1, s1.heap.objs.size], _, _, H1, rfl, I2, turn_enumB (Nat.ne_of_lt la) (Nat.ne_of_gt (Nat.lt_succ_of_lt la)), ⟨⟨.none, he⟩, .start hit, Nat.succ_ne_self _⟩, fun b hb => ?_, q⟩
    have e' : b = s1.heap.objs.size + 1 ∨ b = s1.heap.objs.size := by simpa using hb
    have hle : s1.heap.objs.size ≤ b := by
      rcases e' with z | z
      · rw [z]; exact Nat.le_add_right _ _
      · rw [z]; exact Nat.le_refl _
    exact I1.fpOk hle (I1.hok.fresh hle)
def enumD : Nat → List D → List D
  | _, [] => []
  | n, x :: xs => .tuple [.int (n : Int), x] :: enumD (n + 1) xs
theorem enumD_len : ∀ (xs : List D) (n : Nat), (enumD n xs).length = xs.length
  | [], _ => rfl
  | x :: xs, n => by rw [enumD, List.length_cons, List.length_cons, enumD_len xs]
theorem enumD_get : ∀ {xs : List D} {n i : Nat} {d : D}, (enumD n xs)[i]? = some d → ∃ x, xs[i]? = some x ∧ d = .tuple [.int ((n + i : Nat) : Int), x]
  | [], _, _, _, h => by simp [enumD] at h
  | x :: xs, n, 0, d, h => by
    have h : some (PyData.tuple [.int (n : Int), x]) = some d := h
    cases h
    exact ⟨x, rfl, rfl⟩
  | x :: xs, n, i + 1, d, h => by
    have h : (enumD (n + 1) xs)[i]? = some d := h
    obtain ⟨y, h1, h2⟩ := enumD_get h
    exact ⟨y, by simpa using h1, by rw [h2, show n + 1 + i = n + (i + 1) by omega]⟩
def dEnum (f : DD) : DI := fun env τ => bnd (f env τ) fun x τ1 => match itemsD x with
  | some xs => some (enumD 0 xs, τ1)
  | none => none
section
variable {X : Cx} {e : Expr} {p pos tpos : Pos} {elts : List Expr} {kk : Nat} {f : DD}
theorem ji_enum (hm : X.mg "enumerate" = none) (h1 : JD X e f) (hg : Gl X "enumerate" := by rfl) (hs : starEach [e] X.env = (false, eval e X.env) :: starEach [] X.env := by rfl) (hpl : (backTo pos (starEach [] X.env)).any (·.1) = false := by rfl) :
    JI X (.Tuple elts kk tpos) (.Call (.Name "enumerate" p) [e] [] pos) (dEnum f) :=
  PIi (pi_enumB hg hm (ja_cons h1 ja_nil hs) hs hpl) fun σ H R ⟨g, Hs, env, τ, ds, τ', r, hf, q⟩ => by
    obtain ⟨x, τ1, h1, h2⟩ := bnd_eq hf
    split at h2
    · rename_i xs hx
      cases h2
      refine ⟨g, Hs, env, τ, [x], τ', r, by show bnd (f env τ) _ = _; rw [h1]; rfl, fun ws Hs1 H1 u1 rs => ?_⟩
      cases rs with
      | cons a1 b1 =>
        cases b1
        obtain ⟨a, ba, vs, rfl, rx, lx, sx⟩ := rp_sq (K := X.K) u1.le a1 hx
        refine ⟨a, ba, vs, rfl, sx H1 u1.le, q _ Hs1 H1 u1 (by rw [enumD_len, ← rx.len]; exact lx) ?_⟩
        refine ⟨fun H => SqB X.K ba H a vs, YPair (fun i => some (.int (i : Nat))) (fun i => vs[i]?), by rw [enumD_len, ← rx.len]; exact walk_enumB, fun Hs2 H2 τ2 f2 => sx _ (f2.s.trans f2.le), fun Hs2 H2 τ2 i v H3 d f2 yy hd => ?_⟩
        obtain ⟨T, v1, v2, rfl, hT, rfl, e1, e2⟩ := yy
        have e1 : some (V.int (i : Nat)) = some v1 := e1
        have e2 : vs[i]? = some v2 := e2
        cases e1
        obtain ⟨d2, g2, rfl⟩ := enumD_get hd
        obtain ⟨w2, e2', r2⟩ := rx.get g2
        rw [e2] at e2'; cases e2'
        rw [Nat.zero_add]
        exact new_pair f2.le f2.tp hT (.int _) (r2.to f2.s) default rfl
    · cases h2
theorem jc_enum (hm : X.mg "enumerate" = none) (h1 : JR X e f) (hg : Gl X "enumerate" := by rfl) (hs : starEach [e] X.env = (false, eval e X.env) :: starEach [] X.env := by rfl) (hpl : (backTo pos (starEach [] X.env)).any (·.1) = false := by rfl) :
    JC X (.Tuple elts kk tpos) (.Call (.Name "enumerate" p) [e] [] pos) (dEnum f) :=
  PIi (pi_enumB hg hm (jr_cons h1 jr_nil hs) hs hpl) fun σ H R ⟨g, Hs, env, τ, ds, τ', r, hf, q⟩ => by
    obtain ⟨x, τ1, h1, h2⟩ := bnd_eq hf
    split at h2
    · rename_i xs hx
      cases h2
      refine ⟨g, Hs, env, τ, [x], τ', r, by show bnd (f env τ) _ = _; rw [h1]; rfl, fun ws Hs1 H1 u1 rs => ?_⟩
      cases rs with
      | cons a1 b1 =>
        cases b1
        obtain ⟨a, ba, vs, rfl, rx, lx, sx⟩ := rdb_sq (K := X.K) (τ := τ') a1 hx
        have u0 := Up.refl u1.le u1.tp
        refine ⟨a, ba, vs, rfl, sx _ _ _ u1.le u0, q _ Hs1 H1 u1 (by rw [enumD_len, ← rx.len]; exact lx) ?_⟩
        refine ⟨fun H => SqB X.K ba H a vs, YPair (fun i => some (.int (i : Nat))) (fun i => vs[i]?), by rw [enumD_len, ← rx.len]; exact walk_enumB, fun Hs2 H2 τ2 f2 => sx _ _ _ u1.le f2, fun Hs2 H2 τ2 i v H3 d f2 yy hd => ?_⟩
        obtain ⟨T, v1, v2, rfl, hT, rfl, e1, e2⟩ := yy
        have e1 : some (V.int (i : Nat)) = some v1 := e1
        have e2 : vs[i]? = some v2 := e2
        cases e1
        obtain ⟨d2, g2, rfl⟩ := enumD_get hd
        obtain ⟨w2, e2', r2⟩ := rx.get g2
        rw [e2] at e2'; cases e2'
        rw [Nat.zero_add]
        exact new_pair f2.le f2.tp hT (.int _) (r2.to f2.s) default rfl
    · cases h2
end
end Pv
namespace Pv
open PySem L2 PySem.Spec PyProof.Rows
variable [Tbl]
def comp2L (b : DG) (c : DT) (it1 : DI) (vs1 : List Nat) (b1 : DG) (c1 : DT) (e : DD) : List D → Ev → Tp → Option (List D × Tp)
  | [], _, τ => some ([], τ)
  | x :: xs, env, τ => match b x env with
    | none => none
    | some env1 => bnd (c env1 τ) fun k τ1 => if k = true then bnd (it1 env1 τ1) fun ds1 τ2 => bnd (compL b1 c1 e ds1 (wipeE env1 vs1) τ2) fun ys τ3 => bnd (comp2L b c it1 vs1 b1 c1 e xs env τ3) fun zs τ4 => if ds1.length * (xs.length + 1) ≤ 1000000 then some (ys ++ zs, τ4) else none
      else comp2L b c it1 vs1 b1 c1 e xs env τ1
def dComp2 (vs vs1 : List Nat) (it : DI) (b : DG) (c : DT) (it1 : DI) (b1 : DG) (c1 : DT) (e : DD) : DE := fun env τ => bnd (it env τ) fun ds τ1 => bnd (comp2L b c it1 vs1 b1 c1 e ds (wipeE env vs) τ1) fun ys τ2 => if ys.length ≤ 1000000 then some (.ow ys, τ2) else none
theorem Rel.atg {g : G} {Hs H : Hp} {σ : Sl} {env : Ev} {τ : Tp} (r : Rel g Hs H σ env τ) {A : Addr} {o : HO} (hA : H A = some o) (hn : Hs A = none) (ha : ∀ (j : Nat) (u : Vl), env[j]? = some (some u) → u.own = true → σ[j]? ≠ some (some (.ref A))) : Rel {g with H0 := upd g.H0 A o} Hs H σ env τ where
  le := r.le
  tp := ⟨r.tp.tb, r.tp.tn, r.tp.h, r.tp.n, r.tp.s, r.tp.l⟩
  ls := r.ls
  bs := fun b ob hb hT m => by
    have hb : upd g.H0 A o b = some ob := hb
    by_cases e : b = A
    · subst e; rw [upd_same] at hb; cases hb; exact hA
    · rw [upd_ne e] at hb; exact r.bs b ob hb hT m
  bk := fun b h => by
    show upd g.H0 A o b = none
    rw [upd_ne (fun e => by subst e; rw [hA] at h; cases h)]
    exact r.bk b h
  fr := fun b ob hb h0 => by
    have e : b ≠ A := fun e => by subst e; rw [hn] at hb; cases hb
    exact (upd_ne e).trans (r.fr b ob hb h0)
  sl := r.sl
  ow := fun i v p hv ho hp => by
    have e : p ≠ A := fun e => by subst e; exact ha i v hv ho hp
    exact (upd_ne e).trans (r.ow i v p hv ho hp)
  ap := r.ap
  ln := r.ln
theorem Rel.putg {g : G} {Hs H : Hp} {σ : Sl} {env : Ev} {τ : Tp} {h0 : Hp} {A : Addr} {o o' : HO} (r : Rel {g with H0 := upd h0 A o} Hs H σ env τ) (hn : Hs A = none) (nT : A ≠ g.aT) (m : mu o = true) : Rel {g with H0 := upd h0 A o'} Hs (upd H A o') σ env τ where
  le := fun b ob hb => by
    have e : b ≠ A := fun e => by subst e; rw [hn] at hb; cases hb
    rw [upd_ne e]; exact r.le b ob hb
  tp := ⟨tabs_ne r.tp.tb (r.bs A o upd_same nT (mu_nt m)) m _, r.tp.tn, by rw [upd_ne nT.symm]; exact r.tp.h, r.tp.n, r.tp.s, r.tp.l⟩
  ls := r.ls
  bs := fun b ob hb hT m => by
    have hb : upd h0 A o' b = some ob := hb
    by_cases e : b = A
    · subst e; rw [upd_same] at hb ⊢; exact hb
    · rw [upd_ne e] at hb ⊢; exact r.bs b ob ((upd_ne e).trans hb) hT m
  bk := fun b h => by
    show upd h0 A o' b = none
    have e : b ≠ A := fun e => by subst e; rw [upd_same] at h; cases h
    rw [upd_ne e]
    exact (upd_ne e).symm.trans (r.bk b (upd_none h))
  fr := fun b ob hb hh => by
    have e : b ≠ A := fun e => by subst e; rw [hn] at hb; cases hb
    exact (upd_ne e).trans ((upd_ne e).symm.trans (r.fr b ob hb hh))
  sl := fun i v hv => by
    obtain ⟨z, z1, z2⟩ := r.sl i v hv
    refine ⟨z, z1, ?_⟩
    have key : ∀ p', z = .ref p' → v.own = true → p' ≠ A := fun p' e1 ho' e2 => by
      subst e1; subst e2
      have h : upd h0 p' o p' = none := r.ow i v p' hv ho' z1
      rw [upd_same] at h; cases h
    cases v with
    | sh d => exact z2
    | ow ds' =>
      obtain ⟨p', xs', e1, n1, n2, n3, n4, n5⟩ := z2
      exact ⟨p', xs', e1, n1, n2, by rw [upd_ne (key p' e1 rfl)]; exact n3, n4, n5⟩
    | dk ds' =>
      obtain ⟨p', xs', e1, n1, n2, n3, n4⟩ := z2
      exact ⟨p', xs', e1, n1, n2, by rw [upd_ne (key p' e1 rfl)]; exact n3, n4⟩
    | dt ds' =>
      obtain ⟨p', xs', e1, n1, n2, n3, n4⟩ := z2
      exact ⟨p', xs', e1, n1, n2, by rw [upd_ne (key p' e1 rfl)]; exact n3, n4⟩
    | tp => exact z2
  ow := fun i v p hv ho hp => by
    have h : upd h0 A o p = none := r.ow i v p hv ho hp
    have e : p ≠ A := fun e => by subst e; rw [upd_same] at h; cases h
    rw [upd_ne e] at h; exact (upd_ne e).trans h
  ap := r.ap
  ln := r.ln
theorem upg {g : G} {h0 : Hp} {Hs H Hs' H' : Hp} {τ' : Tp} (u : Up {g with H0 := h0} Hs H Hs' H' τ') : Up g Hs H Hs' H' τ' := ⟨u.s, u.h, u.k, u.f, u.le, ⟨u.tp.tb, u.tp.tn, u.tp.h, u.tp.n, u.tp.s, u.tp.l⟩⟩
theorem gup {g : G} (h0 : Hp) {Hs H Hs' H' : Hp} {τ' : Tp} (u : Up g Hs H Hs' H' τ') : Up {g with H0 := h0} Hs H Hs' H' τ' := ⟨u.s, u.h, u.k, u.f, u.le, ⟨u.tp.tb, u.tp.tn, u.tp.h, u.tp.n, u.tp.s, u.tp.l⟩⟩
theorem lc2_run {vs vs1 is is1 : List Nat} {it it1 : DI} {b b1 : DG} {c c1 : DT} {e : DD} (his : ∀ i ∈ is, i ∈ vs) (his1 : ∀ i ∈ is1, i ∈ vs1) : ∀ σ H Q, tV (dComp2 vs vs1 it b c it1 b1 c1 e) σ H Q → tLc2 (tIE it) (tG is b) (tB' c) (tIS it1) (tG is1 b1) (tB' c1) (tD e) vs vs1 σ H Q := fun σ H Q ⟨g, Hs, env, τ, v, τ', r, hf, q⟩ => by
  obtain ⟨ds, τ1, h1, h2⟩ := bnd_eq hf
  obtain ⟨res, τ2, h3, h4⟩ := bnd_eq h2
  split at h4
  case isFalse => cases h4
  rename_i hbig
  cases h4
  refine ⟨g, Hs, env, τ, ds, τ1, r, h1, fun J Hs1 H1 u1 hlen wk A hA => ?_⟩
  obtain ⟨Gd, Y, w, wG, wY⟩ := wk
  have nT := u1.neT hA
  have hA1 := u1.freeS hA
  have r1 := (r.up u1).wipe vs
  have uz : Up g Hs1 H1 Hs1 H1 τ1 := .refl u1.le u1.tp
  have stay : ∀ {Hs2 H2 Hs3 H3 : Hp} {τ3 : Tp} {o : HO}, Up g Hs2 H2 Hs3 H3 τ3 → H2 A = some o → Hs2 A = none → nt o = true → H3 A = some o ∧ Hs3 A = none := fun {Hs2 H2 Hs3 H3 τ3 o} u h hn nto => ⟨u.h _ _ h nT nto, by
    cases z : Hs3 A with
    | none => rfl
    | some o => rw [u.f A o z hn] at h; cases h⟩
  refine ⟨fun i m H' => m + i = ds.length ∧ ∃ Hs' acc ys τi rest, Up g Hs1 H1 Hs' H' τi ∧ H' A = some (.lst acc) ∧ Hs' A = none ∧ Rps Hs' acc ys ∧ comp2L b c it1 vs1 b1 c1 e (ds.drop i) (wipeE env vs) τi = some (rest, τ') ∧ ys ++ rest = res,
    ⟨ds.length, rfl, Hs1, [], [], τ1, res, uz.mk1 hA, upd_same, hA1, .nil, by rw [List.drop_zero]; exact h3, rfl⟩, ?_⟩
  rintro i m H2 ⟨hm, Hs2, acc, ys, τi, rest, u2, hacc, hA2, hr, hc, hres⟩
  rcases Nat.lt_or_ge i ds.length with hi | hi
  case inr =>
    have e : i = ds.length := by omega
    subst e
    rw [List.drop_length] at hc
    cases hc
    rw [List.append_nil] at hres
    subst hres
    refine .inl ⟨w.stops H2 (wG Hs2 H2 _ u2), q _ Hs2 H2 (u1.trans u2) ⟨A, acc, rfl, nT, hA2, hacc, ?_, hr⟩ fun _ p ep => by cases ep; exact u1.old hA⟩
    rw [hr.len, line_eq]; omega
  case inl =>
    refine .inr ⟨w.goes i H2 hi (wG Hs2 H2 _ u2), fun H' => ∃ Hs' acc ys τi rest, Up g Hs1 H1 Hs' H' τi ∧ H' A = some (.lst acc) ∧ Hs' A = none ∧ Rps Hs' acc ys ∧ comp2L b c it1 vs1 b1 c1 e (ds.drop (i + 1)) (wipeE env vs) τi = some (rest, τ') ∧ ys ++ rest = res, fun H' h' => ⟨m - 1, by omega, by omega, h'⟩, fun x H3 hy => ?_⟩
    have hy := w.yields i H2 x H3 hi (wG Hs2 H2 _ u2) hy
    have hd : ds[i]? = some (ds[i]'hi) := List.getElem?_eq_getElem hi
    generalize ds[i]'hi = d at hd
    obtain ⟨Hs3, u3, rx⟩ := wY Hs2 H2 τi i x H3 d u2 hy hd
    obtain ⟨hacc3, hA3⟩ := stay u3 hacc hA2 rfl
    rw [List.drop_eq_getElem_cons hi, show ds[i] = d from Option.some.inj ((List.getElem?_eq_getElem hi).symm.trans hd)] at hc
    have hc' : (match b d (wipeE env vs) with
      | none => none
      | some env1 => bnd (c env1 τi) fun k τ1 => if k = true then bnd (it1 env1 τ1) fun ds1 τ2 => bnd (compL b1 c1 e ds1 (wipeE env1 vs1) τ2) fun ys τ3 => bnd (comp2L b c it1 vs1 b1 c1 e (ds.drop (i + 1)) (wipeE env vs) τ3) fun zs τ4 => if ds1.length * ((ds.drop (i + 1)).length + 1) ≤ 1000000 then some (ys ++ zs, τ4) else none
        else comp2L b c it1 vs1 b1 c1 e (ds.drop (i + 1)) (wipeE env vs) τ1) = some (rest, τ') := hc
    cases hb : b d (wipeE env vs) with
    | none => rw [hb] at hc'; cases hc'
    | some env1 =>
      rw [hb] at hc'
      obtain ⟨k, τ4, h5, h6⟩ := bnd_eq hc'
      have r3 : Rel {g with H0 := upd g.H0 A (.lst acc)} Hs3 H3 (wipe σ vs) (wipeE env vs) τi := ((r1.up u2).up u3).atg hacc3 hA3 fun j u e ho => r1.apart hA j u e ho
      refine ⟨{g with H0 := upd g.H0 A (.lst acc)}, Hs3, wipeE env vs, τi, d, env1, r3, rx, hb, fun σ2 r4 t => ⟨?_, {g with H0 := upd g.H0 A (.lst acc)}, Hs3, env1, τi, k, τ4, r4, h5, fun Hs4 H4 u4 => ?_⟩⟩
      · rw [t.wipe his, wipe_wipe]
      · obtain ⟨hacc4, hA4⟩ := stay (upg u4) hacc3 hA3 rfl
        cases k with
        | false =>
          have h6 : comp2L b c it1 vs1 b1 c1 e (ds.drop (i + 1)) (wipeE env vs) τ4 = some (rest, τ') := h6
          exact iteF ⟨Hs4, acc, ys, τ4, rest, (u2.trans u3).trans (upg u4), hacc4, hA4, (hr.to u3.s).to u4.s, h6, hres⟩
        | true =>
          obtain ⟨ds1, τ5, h7, h8⟩ := bnd_eq h6
          obtain ⟨zs, τ6, h9, h10⟩ := bnd_eq h8
          obtain ⟨rest2, τ7, h11, h12⟩ := bnd_eq h10
          split at h12
          case isFalse => cases h12
          rename_i hsz
          cases h12
          refine iteT ⟨{g with H0 := upd g.H0 A (.lst acc)}, Hs4, env1, τ4, ds1, τ5, r4.up u4, h7, fun J1 Hs5 H5 u5 hlen1 wk1 => ?_⟩
          obtain ⟨Gd1, Y1, w1, wG1, wY1⟩ := wk1
          obtain ⟨hacc5, hA5⟩ := stay (upg u5) hacc4 hA4 rfl
          have u25 : Up g Hs1 H1 Hs5 H5 τ5 := ((u2.trans u3).trans (upg u4)).trans (upg u5)
          have r5 : Rel {g with H0 := upd g.H0 A (.lst acc)} Hs5 H5 (wipe σ2 vs1) (wipeE env1 vs1) τ5 := ((r4.up u4).up u5).wipe vs1
          refine ⟨fun j kk H' => kk + j = ds1.length ∧ ∃ Hs' acc ys2 τj rest3, Up g Hs1 H1 Hs' H' τj ∧ Same Hs5 Hs' ∧ Rel {g with H0 := upd g.H0 A (.lst acc)} Hs' H' (wipe σ2 vs1) (wipeE env1 vs1) τj ∧ H' A = some (.lst acc) ∧ Hs' A = none ∧ Rps Hs' acc ys2 ∧ compL b1 c1 e (ds1.drop j) (wipeE env1 vs1) τj = some (rest3, τ6) ∧ ys2 ++ rest3 = ys ++ zs,
            ⟨ds1.length, rfl, Hs5, acc, ys, τ5, zs, u25, .refl _, r5, hacc5, hA5, ((hr.to u3.s).to u4.s).to u5.s, by rw [List.drop_zero]; exact h9, rfl⟩, ?_⟩
          rintro j kk H6 ⟨hkk, Hs6, acc6, ys6, τ8, rest3, u6, s6, r6, hacc6, hA6, hr6, hc6, hres6⟩
          have fw6 : Fw {g with H0 := upd g.H0 A (.lst acc)} Hs5 Hs6 H6 τ8 := ⟨s6, u6.le, ⟨u6.tp.tb, u6.tp.tn, u6.tp.h, u6.tp.n, u6.tp.s, u6.tp.l⟩⟩
          rcases Nat.lt_or_ge j ds1.length with hj | hj
          case inr =>
            have ej : j = ds1.length := by omega
            subst ej
            rw [List.drop_length] at hc6
            cases hc6
            rw [List.append_nil] at hres6
            exact .inl ⟨w1.stops H6 (wG1 Hs6 H6 _ fw6), Hs6, acc6, ys6, τ6, rest2, u6, hacc6, hA6, hr6, h11, by rw [hres6, List.append_assoc]; exact hres⟩
          case inl =>
            refine .inr ⟨w1.goes j H6 hj (wG1 Hs6 H6 _ fw6), fun H' => ∃ Hs' acc ys2 τj rest3, Up g Hs1 H1 Hs' H' τj ∧ Same Hs5 Hs' ∧ Rel {g with H0 := upd g.H0 A (.lst acc)} Hs' H' (wipe σ2 vs1) (wipeE env1 vs1) τj ∧ H' A = some (.lst acc) ∧ Hs' A = none ∧ Rps Hs' acc ys2 ∧ compL b1 c1 e (ds1.drop (j + 1)) (wipeE env1 vs1) τj = some (rest3, τ6) ∧ ys2 ++ rest3 = ys ++ zs, fun H' h' => ⟨kk - 1, by omega, by omega, h'⟩, fun x1 H7 hy1 => ?_⟩
            have hy1 := w1.yields j H6 x1 H7 hj (wG1 Hs6 H6 _ fw6) hy1
            have hd1 : ds1[j]? = some (ds1[j]'hj) := List.getElem?_eq_getElem hj
            generalize ds1[j]'hj = d1 at hd1
            obtain ⟨Hs7, u7, rx1⟩ := wY1 Hs6 H6 τ8 j x1 H7 d1 fw6 hy1 hd1
            have u7 : Up g Hs6 H6 Hs7 H7 τ8 := upg u7
            obtain ⟨hacc7, hA7⟩ := stay u7 hacc6 hA6 rfl
            rw [List.drop_eq_getElem_cons hj, show ds1[j] = d1 from Option.some.inj ((List.getElem?_eq_getElem hj).symm.trans hd1)] at hc6
            have hc7 : (match b1 d1 (wipeE env1 vs1) with
              | none => none
              | some env2 => bnd (c1 env2 τ8) fun k τ1 => if k = true then bnd (e env2 τ1) fun y τ2 => bnd (compL b1 c1 e (ds1.drop (j + 1)) (wipeE env1 vs1) τ2) fun ys τ3 => some (y :: ys, τ3) else compL b1 c1 e (ds1.drop (j + 1)) (wipeE env1 vs1) τ1) = some (rest3, τ6) := hc6
            cases hb1 : b1 d1 (wipeE env1 vs1) with
            | none => rw [hb1] at hc7; cases hc7
            | some env2 =>
              rw [hb1] at hc7
              obtain ⟨k1, τ9, h13, h14⟩ := bnd_eq hc7
              refine ⟨{g with H0 := upd g.H0 A (.lst acc6)}, Hs7, wipeE env1 vs1, τ8, d1, env2, r6.up (gup _ u7), rx1, hb1, fun σ3 r7 t1 => ⟨?_, {g with H0 := upd g.H0 A (.lst acc6)}, Hs7, env2, τ8, k1, τ9, r7, h13, fun Hs8 H8 u8 => ?_⟩⟩
              · rw [t1.wipe his1, wipe_wipe]
              · have u8 : Up g Hs7 H7 Hs8 H8 τ9 := upg u8
                obtain ⟨hacc8, hA8⟩ := stay u8 hacc7 hA7 rfl
                cases k1 with
                | false =>
                  have h14 : compL b1 c1 e (ds1.drop (j + 1)) (wipeE env1 vs1) τ9 = some (rest3, τ6) := h14
                  exact iteF ⟨Hs8, acc6, ys6, τ9, rest3, (u6.trans u7).trans u8, (s6.trans u7.s).trans u8.s, (r6.up (gup _ u7)).up (gup _ u8), hacc8, hA8, (hr6.to u7.s).to u8.s, h14, hres6⟩
                | true =>
                  obtain ⟨y, τ10, h15, h16⟩ := bnd_eq h14
                  obtain ⟨ys', τ11, h17, h18⟩ := bnd_eq h16
                  cases h18
                  refine iteT ⟨{g with H0 := upd g.H0 A (.lst acc6)}, Hs8, env2, τ9, y, τ10, r7.up (gup _ u8), h15, fun wy Hs9 H9 u9 ry => ?_⟩
                  have u9 : Up g Hs8 H8 Hs9 H9 τ10 := upg u9
                  obtain ⟨hacc9, hA9⟩ := stay u9 hacc8 hA8 rfl
                  have ut := ((u6.trans u7).trans u8).trans u9
                  have hpr := hr6.len
                  have hlen6 : acc6.length < sizeLine := by
                    have := congrArg List.length hres6
                    have := congrArg List.length hres
                    simp at *
                    rw [hpr, line_eq]; omega
                  have r9 := ((r6.up (gup _ u7)).up (gup _ u8)).up (gup _ u9)
                  exact ⟨acc6, hacc9, hlen6, Hs9, acc6 ++ [wy], ys6 ++ [y], τ10, ys', ut.put hA hA9 nT hacc9 rfl, ((s6.trans u7.s).trans u8.s).trans u9.s, r9.putg hA9 nT rfl, upd_same, hA9, (((hr6.to u7.s).to u8.s).to u9.s).snoc ry, h17, by rw [List.append_assoc]; exact hres6⟩
section
variable {X : Cx} {scope : Scope} {own : List (Str × Nat)} {vs1 is is1 : List Nat} {it it1 : DI} {b b1 : DG} {c c1 : DT} {e : DD} {elt tg iter tg1 iter1 : Expr} {ifs ifs1 : List Expr} {pos : Pos}
theorem jcomp2 (hN : X.N.Nodup) (hi : JC X tg iter it) (ok : BlkOk X.N X.env.scope scope own) (hv : ∀ i ∈ vs1, i ∈ own.map (·.2))
    (hg : ∀ (s : Shared) (H : Hp) (C : Addr) (cl : List (Str × Addr)) (fp : List Addr), JG (X.blk s H scope (compEnvC scope cl C X.env) fp) tg is b)
    (ht : ∀ (s : Shared) (H : Hp) (C : Addr) (cl : List (Str × Addr)) (fp : List Addr), JTs (X.blk s H scope (compEnvC scope cl C X.env) fp) ifs c)
    (hi1 : ∀ (s : Shared) (H : Hp) (C : Addr) (cl : List (Str × Addr)) (fp : List Addr), JI (X.blk s H scope (compEnvC scope cl C X.env) fp) tg1 iter1 it1)
    (hg1 : ∀ (s : Shared) (H : Hp) (C : Addr) (cl : List (Str × Addr)) (fp : List Addr), JG (X.blk s H scope (compEnvC scope cl C X.env) fp) tg1 is1 b1)
    (ht1 : ∀ (s : Shared) (H : Hp) (C : Addr) (cl : List (Str × Addr)) (fp : List Addr), JTs (X.blk s H scope (compEnvC scope cl C X.env) fp) ifs1 c1)
    (he : ∀ (s : Shared) (H : Hp) (C : Addr) (cl : List (Str × Addr)) (fp : List Addr), JD (X.blk s H scope (compEnvC scope cl C X.env) fp) elt e)
    (his : ∀ i ∈ is, i ∈ own.map (·.2) := by decide) (his1 : ∀ i ∈ is1, i ∈ vs1 := by decide) (hc : X.calm = true := by rfl) (hs : ∀ x, foldedSetIterable iter X.env x = pure x := by intro _; rfl) (hs1 : ∀ env x, foldedSetIterable iter1 env x = pure x := by intro _ _; rfl) :
    JV X (.ListComp elt [⟨tg, iter, ifs, 0⟩, ⟨tg1, iter1, ifs1, 0⟩] scope pos) (dComp2 (own.map (·.2)) vs1 it b c it1 b1 c1 e) :=
  PEi (pe_lc2 hc hN hi ok hv hg ht hi1 hg1 ht1 he hs hs1) (lc2_run his his1)
theorem js_asgC2 {i : Nat} {y : Str} {py spos : Pos} (hN : X.N.Nodup) (hi : JC X tg iter it) (ok : BlkOk X.N X.env.scope scope own) (hv : ∀ i ∈ vs1, i ∈ own.map (·.2))
    (hg : ∀ (s : Shared) (H : Hp) (C : Addr) (cl : List (Str × Addr)) (fp : List Addr), JG (X.blk s H scope (compEnvC scope cl C X.env) fp) tg is b)
    (ht : ∀ (s : Shared) (H : Hp) (C : Addr) (cl : List (Str × Addr)) (fp : List Addr), JTs (X.blk s H scope (compEnvC scope cl C X.env) fp) ifs c)
    (hi1 : ∀ (s : Shared) (H : Hp) (C : Addr) (cl : List (Str × Addr)) (fp : List Addr), JI (X.blk s H scope (compEnvC scope cl C X.env) fp) tg1 iter1 it1)
    (hg1 : ∀ (s : Shared) (H : Hp) (C : Addr) (cl : List (Str × Addr)) (fp : List Addr), JG (X.blk s H scope (compEnvC scope cl C X.env) fp) tg1 is1 b1)
    (ht1 : ∀ (s : Shared) (H : Hp) (C : Addr) (cl : List (Str × Addr)) (fp : List Addr), JTs (X.blk s H scope (compEnvC scope cl C X.env) fp) ifs1 c1)
    (he : ∀ (s : Shared) (H : Hp) (C : Addr) (cl : List (Str × Addr)) (fp : List Addr), JD (X.blk s H scope (compEnvC scope cl C X.env) fp) elt e)
    (hsw : swapsWith (.ListComp elt [⟨tg, iter, ifs, 0⟩, ⟨tg1, iter1, ifs1, 0⟩] scope pos) (some (.Name y py)) spos.line X.env = pure true := by exact sw_true rfl rfl rfl (by decide +kernel))
    (his : ∀ i ∈ is, i ∈ own.map (·.2) := by decide) (his1 : ∀ i ∈ is1, i ∈ vs1 := by decide) (hc : X.calm = true := by rfl) (hs : ∀ x, foldedSetIterable iter X.env x = pure x := by intro _; rfl) (hs1 : ∀ env x, foldedSetIterable iter1 env x = pure x := by intro _ _; rfl) (hy : X.N[i]? = some y := by rfl) (hyl : X.env.scope.names.lookup y = some .local := by rfl) :
    JS X (.Assign [.Name y py] (.ListComp elt [⟨tg, iter, ifs, 0⟩, ⟨tg1, iter1, ifs1, 0⟩] scope pos) spos) (sAsg i (dComp2 (own.map (·.2)) vs1 it b c it1 b1 c1 e)) := PSi (ps_setLc2 hc hN hy hyl hsw hi ok hv hg ht hi1 hg1 ht1 he hs hs1) (asg_run (lc2_run his his1))
end
end Pv
namespace Pv
open PySem L2 PySem.Spec PyProof.Rows
variable [Tbl]
def max3I (i j k : Int) : Int := if j > i then (if k > j then k else j) else (if k > i then k else i)
def max3 (ds : List D) : Option Vl := match ds with
  | [.int i, .int j, .int k] => some (.sh (.int (max3I i j k)))
  | _ => none
theorem max3I_eq (i j k : Int) : max3I i j k = max (max i j) k := by unfold max3I; split <;> split <;> omega
section
variable {X : Cx} {p pos : Pos} {e e2 e3 : Expr} {k : DA}
theorem call_max3 (hc : X.calm = true) : CallR X (.builtin "max") (fun xs H Q => ∃ i j l, xs = [.int i, .int j, .int l] ∧ Q (.int (max3I i j l)) H) := by
  intro pins s σ H xs us Q I r h
  obtain ⟨i, j, l, e, q⟩ := h
  subst e
  cases r with
  | cons r1 r =>
    cases r with
    | cons r2 r =>
      cases r with
      | cons r3 r =>
        cases r
        obtain ⟨t1, rfl⟩ := r1
        obtain ⟨t2, rfl⟩ := r2
        obtain ⟨t3, rfl⟩ := r3
        refine max_three_ints (I.ok.hd hc) fun h' tk k => ⟨_, H, I.kept k, ?_, q⟩
        unfold max3I
        split <;> split <;> exact ⟨_, rfl⟩
theorem max3_s : CallS (fun xs H Q => ∃ i j l, xs = [.int i, .int j, .int l] ∧ Q (.int (max3I i j l)) H) max3 := by
  intro g Hs H τ ws ds v Q le tp r e q
  unfold max3 at e
  split at e
  · cases e
    obtain ⟨w, u, z, rfl, r1, r2, r3⟩ := rdb3 r
    exact ⟨_, _, _, by rw [r1.int, r2.int, r3.int], q.d le tp (.int _)⟩
  · cases e
theorem jmax3 (hm : X.mg "max" = none) (ha : JRs X [e, e2, e3] k) (hc : X.calm = true := by rfl) (hg : Gl X "max" := by rfl) (he : starEach [e, e2, e3] X.env = (false, eval e X.env) :: starEach [e2, e3] X.env := by rfl) (hpl : (backTo pos (starEach [e2, e3] X.env)).any (·.1) = false := by rfl) : JV X (.Call (.Name "max" p) [e, e2, e3] [] pos) (dCl max3 k) :=
  jcB (call_max3 hc) max3_s ha hg hm (by decide +kernel) (by decide) (by decide) he hpl
end
end Pv
namespace Pv
open PySem L2 PySem.Spec PyProof.Rows
variable [Tbl]
section
variable {prog : Program} {w : World} {A : Around} {E : Value → Shared → Prop} {s : Shared}
theorem sorted_colD {R : Value → D → Prop} {l : Addr} {bs : List D} {Q : Value → Shared → Prop}
    (hcol : ∀ (E' : Value → Shared → Prop) (Q' : List Value → Shared → Prop), (∀ h' tk vs, (∀ b o, s.heap.get? b = some o → h'.get? b = some o) → vs.length ≤ sizeLine → W.EachIs R vs bs → W.EachIs (fun v b => Reads h' v b []) vs bs → Q' vs { s with heap := h', toks := tk }) → wpAny (model prog w) A.in1 (collect (.ref l)) Q' E' s)
    (hal : W.AllAlike bs) (hk : W.Sortable bs) (hu : ∀ b, b ∈ bs → A.units + 2 + b.depth < cLine)
    (h : ∀ (out : List Value) (n : Nat) (h1 h' : Heap) (tk : Nat), (∀ b o, s.heap.get? b = some o → h1.get? b = some o) → (∀ b o, h1.get? b = some o → h'.get? b = some o) → h'.get? h1.objs.size = some { cls := .type "list", data := .seq out.toArray n } → W.EachIs R out (bs.mergeSort (W.dataLe false id)) → Q (.ref h1.objs.size) { s with heap := h', toks := tk }) :
    wpAny (model prog w) A (call (.builtin "sorted") [.ref l]) Q E s := by
  refine Calls.call_function_entry kind_sorted plain_sorted entry_sorted (args_sorted1 _) ?_
  unfold Builtin.«sorted»
  refine wpAny_bind (m := checkCount "sorted" 1 1 _) (wpAny_pure ?_)
  refine wpAny_bind (hcol _ _ fun h1 tk1 vs k1 hL e er => ?_)
  refine wpAny_bind (wpAny_newList ?_ hL)
  have hp0 : (h1.push { cls := .type "list", data := .seq vs.toArray }).get? h1.objs.size = some (seqObj "list" vs.toArray 0) := Heap.get?_push_size _ rfl
  have k2 : ∀ b o, h1.get? b = some o → (h1.push { cls := .type "list", data := .seq vs.toArray }).get? b = some o := fun b o q => Heap.get?_push_of_some _ q
  have er2 : W.EachIs (fun v b => ∃ as, Reads (h1.push { cls := .type "list", data := .seq vs.toArray }) v (id b) as ∧ h1.objs.size ∉ as) vs bs := er.mono fun v b r => ⟨[], PyProof.Rows.Reads.keeps k2 r, fun hm => by cases hm⟩
  refine wpAny_bind (wpAny_holding (W.list_sort_data (enc := id) hp0 e er2 (by rw [List.map_id]; exact hal) (by rw [List.map_id]; exact hk) (by rw [← e.length]; exact hL) (fun b hb => ?_) fun out ho eo => ?_))
  · exact Nat.lt_of_le_of_lt (by show A.in1.units + 1 + b.depth ≤ A.units + 2 + b.depth; exact Nat.add_le_add_right (Nat.le_refl (A.units + 1 + 1)) _) (hu b hb)
  · obtain ⟨n, hn⟩ := sortedHeap_at (vs := vs) (out := out.toArray) hp0
    refine wpAny_pure ⟨_, rfl, h out n h1 _ tk1 k1 (fun b o q => ?_) hn eo⟩
    have hlt := Heap.lt_size q
    rw [sortedHeap_old (Nat.ne_of_lt hlt) (by rw [size_push']; exact Nat.lt_succ_of_lt hlt)]
    exact k2 b o q
end
/-- a value that stands for a key -/
def KeyR (w : V) (d : D) : Prop := ∃ k : Key, d = dKey k ∧ w = kV k
def rSrtM : List V → Hp → VK → Prop := fun xs H Q => ∃ (p : Addr) (kvs : List (Key × V)), xs = [V.ref p] ∧ H p = some (.dK kvs) ∧ srtOk (kvs.map fun kv => dKey kv.1) = true ∧
  ∀ (q : Addr) (out : List V), H q = none → out.length ≤ sizeLine → Paired KeyR out (srtD (kvs.map fun kv => dKey kv.1)) → Q (.ref q) (upd H q (.lst out))
theorem keyIs_reads {h : Heap} {k : Key} {v : Value} (e : keyIs k v = true) : Reads h v (dKey k) [] := by
  cases k with
  | inl i =>
    have := keyIs_rel e
    obtain ⟨t, rfl⟩ := (this : RelV (.int i) v)
    exact .int i t
  | inr x =>
    have := keyIs_rel e
    obtain ⟨t, rfl⟩ := (this : RelV (.str x) v)
    exact .str x t
section
variable {X : Cx}
theorem cr_srtM (hc : X.calm = true) (hu : X.A.units + 64 < cLine) : CallR X (.builtin "sorted") rSrtM := by
  intro pins s σ H xs us Q I r h
  obtain ⟨p, kvs, rfl, hk, hok, q⟩ := h
  rw [Vals.ref1 r]
  unfold srtOk at hok
  rw [Bool.and_eq_true, Bool.and_eq_true] at hok
  obtain ⟨⟨h1, h2⟩, h3⟩ := hok
  have h3 := of_decide_eq_true h3
  obtain ⟨z, lo, vs, rk, hd⟩ := (show ObjOk X.prog X.w H s.heap p (.dK kvs) from I.hok p _ hk)
  obtain ⟨ep, hat⟩ := hd.dictAt
  have hl : kvs.length = vs.length := Paired.length rk
  have hkeys : vs.map (·.1) = kvs.map (·.1) := (KV.keys rk).symm
  refine sorted_colD (R := fun u d => ∃ w, RelV w u ∧ KeyR w d) (bs := kvs.map fun kv => dKey kv.1) (fun E' Q' hQ' => ?_) (allk_of h1) (sbl_of h2) (fun b hb => ?_) fun out n' h1 h' tk k1 k2 hp eo => ?_
  · refine PySem.W.kdu_collect (A := X.A.in1) (PySem.W.kdl_dict (knd := mixKind X.prog X.w) (kvs := vs) (ep := ep) lo) (I.ok.hd hc) hat (by rw [← hl]; exact z) fun h' tk acc kp hacc => ?_
    have hal : acc.toList.length = vs.length := by rw [Array.length_toList]; exact hacc.1
    have hkk : ∀ (j : Nat) (u : Value), acc.toList[j]? = some u → ∃ k : Key, (kvs.map fun kv => dKey kv.1)[j]? = some (dKey k) ∧ keyIs k u = true := fun j u hj => by
      obtain ⟨k, y, hky, hi⟩ := hacc.2 j u (by rw [← Array.getElem?_toList]; exact hj)
      refine ⟨k, ?_, hi⟩
      have e1 : (kvs.map (·.1))[j]? = some k := by rw [← hkeys, List.getElem?_map, hky]; rfl
      have e3 : (kvs.map fun kv => dKey kv.1) = (kvs.map (·.1)).map dKey := by rw [List.map_map]; rfl
      rw [e3, List.getElem?_map, e1]; rfl
    have hlen2 : acc.toList.length = (kvs.map fun kv => dKey kv.1).length := by rw [hal, List.length_map, hl]
    have each : ∀ {S : Value → D → Prop} (us : List Value) (ds : List D), us.length = ds.length → (∀ (j : Nat) (u : Value), us[j]? = some u → ∃ d, ds[j]? = some d ∧ S u d) → W.EachIs S us ds := fun {S} us => by
      induction us with
      | nil => intro ds e _; cases ds with
        | nil => exact .nil
        | cons _ _ => simp at e
      | cons u us ih =>
        intro ds e f
        cases ds with
        | nil => simp at e
        | cons d ds =>
          obtain ⟨d', e1, e2⟩ := f 0 u rfl
          cases e1
          exact .cons e2 (ih ds (by simpa using e) fun j v hj => f (j + 1) v (by simpa using hj))
    refine hQ' h' tk acc.toList kp (by rw [hal, ← hl]; exact z) (each _ _ hlen2 fun j u hj => ?_) (each _ _ hlen2 fun j u hj => ?_)
    · obtain ⟨k, e1, e2⟩ := hkk j u hj
      exact ⟨_, e1, kV k, keyIs_rel e2, k, rfl, rfl⟩
    · obtain ⟨k, e1, e2⟩ := hkk j u hj
      exact ⟨_, e1, keyIs_reads e2⟩
  · refine Nat.lt_of_le_of_lt ?_ hu
    have := depth_mem hb
    omega
  · obtain ⟨ws, rw1, rw2⟩ := each_vals eo
    have I1 : Inv X pins σ H { s with heap := h1, toks := tk } := I.kept k1
    have hz : ws.length ≤ sizeLine := by
      rw [paired_len rw2]
      rw [List.length_mergeSort, List.length_map]
      exact z
    exact ⟨.ref h1.objs.size, _, I1.laid (t' := tk) (o := .lst ws) k2 (Nat.le_refl _) ⟨hz, out, n', rw1, hp⟩, rfl, q _ ws (I1.hok.fresh (Nat.le_refl _)) hz (by rw [srtD_def]; exact rw2)⟩
end
theorem keyR_rps {Hs : Hp} : ∀ {ws : List V} {ds : List D}, Paired KeyR ws ds → Rps Hs ws ds
  | _, _, .nil => .nil
  | _, _, .cons ⟨k, e1, e2⟩ t => by
    subst e1; subst e2
    refine .cons ?_ (keyR_rps t)
    cases k with
    | inl i => exact .int i
    | inr x => exact .str x
def dsortedM (m : DE) : DE := fun env τ => bnd (m env τ) fun v τ1 => match v with
  | .dk kvs => if srtOk (kvs.map fun kv => dKey kv.1) = true then some (.ow (srtD (kvs.map fun kv => dKey kv.1)), τ1) else none
  | _ => none
theorem kps_keys {Hs : Hp} : ∀ {a : List (Key × V)} {b : List (Key × D)}, Kps Hs a b → (a.map fun kv => dKey kv.1) = b.map fun kv => dKey kv.1
  | _, _, .nil => rfl
  | _, _, .cons h t => by rw [List.map_cons, List.map_cons, kps_keys t, h.1]
theorem jsortedM {X : Cx} {p pos : Pos} {e : Expr} {m : DE} (hm : X.mg "sorted" = none) (hu : X.A.units + 64 < cLine) (he : JM X e m) (hc : X.calm = true := by rfl) (hg : Gl X "sorted" := by rfl)
    (h1 : starEach [e] X.env = (false, eval e X.env) :: starEach [] X.env := by rfl) (hpl : (backTo pos (starEach [] X.env)).any (·.1) = false := by rfl) : JV X (.Call (.Name "sorted" p) [e] [] pos) (dsortedM m) :=
  PEi (pe_callB (cr_srtM hc hu) hg hm (by decide +kernel) (pa_cons he pa_nil h1) (by decide) (by decide) h1 hpl) fun σ H Q ⟨g, Hs, env, τ, o, τ', r, hf, q⟩ => by
    obtain ⟨v, τ1, h1, h2⟩ := bnd_eq hf
    refine ⟨g, Hs, env, τ, v, τ1, r, h1, fun w Hs1 H1 u1 rv => ?_⟩
    split at h2
    · rename_i kvs
      split at h2
      · rename_i hok
        cases h2
        obtain ⟨p, kv, rfl, _, _, hp, hr⟩ := rv
        have hke := kps_keys hr
        refine ⟨p, kv, rfl, hp, by rw [hke]; exact hok, fun a out ha hz ho => ?_⟩
        rw [hke] at ho
        exact q _ Hs1 _ (u1.mk1 ha) ⟨a, out, rfl, u1.neT ha, u1.freeS ha, upd_same, hz, keyR_rps ho⟩ fun _ p' ep => by cases ep; exact u1.old ha
      · cases h2
    · cases h2
end Pv
namespace Pv
open PySem L2 PySem.Spec PyProof.Rows
variable [Tbl]
def rPickM (pick : D → List D → D) : List V → Hp → VK → Prop := fun xs H Q => ∃ (p : Addr) (kvs : List (Key × V)) (x : D) (ds : List D), xs = [V.ref p] ∧ H p = some (.dK kvs) ∧ (kvs.map fun kv => dKey kv.1) = x :: ds ∧ alk (x :: ds) = true ∧ PyData.depthAll (x :: ds) ≤ 60 ∧
  ∀ (k : Key), dKey k = pick x ds → Q (kV k) H
section
variable {X : Cx}
theorem key_at {kvs : List (Key × V)} {vs : List (Key × Value)} {x : D} {ds : List D} (hkeys : vs.map (·.1) = kvs.map (·.1)) (hds : (kvs.map fun kv => dKey kv.1) = x :: ds) {i : Nat} {v : Value} (h : ∃ k y, vs[i]? = some (k, y) ∧ keyIs k v = true) : ∃ k : Key, (x :: ds).getD i .none = dKey k ∧ keyIs k v = true ∧ i < (x :: ds).length ∧ (x :: ds).getD i .none ∈ x :: ds := by
  obtain ⟨k, y, hky, hi⟩ := h
  have e1 : (kvs.map (·.1))[i]? = some k := by rw [← hkeys, List.getElem?_map, hky]; rfl
  have e3 : (kvs.map fun kv => dKey kv.1) = (kvs.map (·.1)).map dKey := by rw [List.map_map]; rfl
  have e4 : (x :: ds)[i]? = some (dKey k) := by rw [← hds, e3, List.getElem?_map, e1]; rfl
  have e5 : (x :: ds).getD i .none = dKey k := by rw [List.getD_eq_getElem?_getD, e4]; rfl
  exact ⟨k, e5, hi, (List.getElem?_eq_some_iff.mp e4).1, by rw [e5]; exact List.mem_of_getElem? e4⟩
theorem cr_minM (hc : X.calm = true) (hu : X.A.units + 64 < cLine) : CallR X (.builtin "min") (rPickM W.minD) := by
  intro pins s σ H xs us Q I r h
  obtain ⟨p, kvs, x, ds, rfl, hk, hds, ha, hdep, q⟩ := h
  rw [Vals.ref1 r]
  obtain ⟨z, lo, vs, rk, hd⟩ := (show ObjOk X.prog X.w H s.heap p (.dK kvs) from I.hok p _ hk)
  obtain ⟨ep, hat⟩ := hd.dictAt
  have hl : kvs.length = vs.length := Paired.length rk
  have hkeys : vs.map (·.1) = kvs.map (·.1) := (KV.keys rk).symm
  have hlen : vs.length = (x :: ds).length := by rw [← hl, ← hds, List.length_map]
  have hal := alk_of ha
  have K := PySem.W.kdl_dict (prog := X.prog) (w := X.w) (d := p) (knd := mixKind X.prog X.w) (kvs := vs) (ep := ep) lo
  refine call_min_walkH ?_
  obtain ⟨oI, St, hit, Wk, st⟩ := K.iter X.A.in1 s (I.ok.hd hc) hat
  refine hit _ _ ⟨s.heap.objs.size, _, _, _, _, _, _, s.heap, fun i j => W.dataLt ((x :: ds).getD i .none) ((x :: ds).getD j .none), rfl, Wk.toS, st, fun b hb => ?_, by rw [hlen]; simp, fun b o e hm => ?_, fun b o e => Heap.get?_push_of_some _ e, fun i j vi vj s' Q' E' hkp hi hj hq => ?_, fun v s' hP hm => ?_⟩
  · show b < (s.heap.push oI).objs.size
    rw [size_push']
    rcases List.mem_cons.mp hb with e | hb
    · rw [e]; exact Nat.lt_succ_self _
    · rw [List.mem_singleton.mp hb]; exact Nat.lt_succ_of_lt (K.there _ hat).2
  · have := Heap.lt_size e
    rw [List.mem_singleton.mp hm] at this
    exact Nat.lt_irrefl _ this
  · obtain ⟨k1, a1, a2, _, a4⟩ := key_at hkeys hds hi
    obtain ⟨k2, b1, b2, _, b4⟩ := key_at hkeys hds hj
    refine W.rcLt_alike _ _ X.A.in1 s' vi vj [] [] (keyIs_reads (k := k1) a2) (keyIs_reads (k := k2) b2) (by rw [← a1, ← b1]; exact hal.1 _ a4 _ b4) (by rw [← a1]; exact hal.2 _ a4) ?_ X.prog X.w E' Q' (by rw [← a1, ← b1]; exact hq)
    have q1 : (dKey k1).depth ≤ PyData.depthAll (x :: ds) := by rw [← a1]; exact depth_mem a4
    have q2 := Nat.min_le_left (dKey k1).depth (dKey k2).depth
    show X.A.units + 1 + _ < _
    omega
  · have hkp : ∀ b o, s.heap.get? b = some o → s'.heap.get? b = some o := fun b o e => hm.heap b o (fun hI => absurd (Heap.lt_size e) (by rw [List.mem_singleton.mp hI]; exact Nat.lt_irrefl _)) (Heap.get?_push_of_some _ e)
    obtain ⟨k, a1, a2, _, _⟩ := key_at hkeys hds hP
    have e1 : vs.length - 1 = ds.length := by rw [hlen]; rfl
    have e2 := (W.argBest_fold W.dataLt PyData.none x ds ds.length (Nat.le_refl _)).2
    rw [List.take_length] at e2
    rw [e1, e2] at a1
    rw [Moved.eq_with hm]
    exact ⟨kV k, H, I.kept hkp, keyIs_rel a2, q k a1.symm⟩
theorem cr_maxM (hc : X.calm = true) (hu : X.A.units + 64 < cLine) : CallR X (.builtin "max") (rPickM W.maxD) := by
  intro pins s σ H xs us Q I r h
  obtain ⟨p, kvs, x, ds, rfl, hk, hds, ha, hdep, q⟩ := h
  rw [Vals.ref1 r]
  obtain ⟨z, lo, vs, rk, hd⟩ := (show ObjOk X.prog X.w H s.heap p (.dK kvs) from I.hok p _ hk)
  obtain ⟨ep, hat⟩ := hd.dictAt
  have hl : kvs.length = vs.length := Paired.length rk
  have hkeys : vs.map (·.1) = kvs.map (·.1) := (KV.keys rk).symm
  have hlen : vs.length = (x :: ds).length := by rw [← hl, ← hds, List.length_map]
  have hal := alk_of ha
  have K := PySem.W.kdl_dict (prog := X.prog) (w := X.w) (d := p) (knd := mixKind X.prog X.w) (kvs := vs) (ep := ep) lo
  refine call_max_walkH ?_
  obtain ⟨oI, St, hit, Wk, st⟩ := K.iter X.A.in1 s (I.ok.hd hc) hat
  refine hit _ _ ⟨s.heap.objs.size, _, _, _, _, _, _, s.heap, fun i j => W.dataLt ((x :: ds).getD j .none) ((x :: ds).getD i .none), rfl, Wk.toS, st, fun b hb => ?_, by rw [hlen]; simp, fun b o e hm => ?_, fun b o e => Heap.get?_push_of_some _ e, fun i j vi vj s' Q' E' hkp hi hj hq => ?_, fun v s' hP hm => ?_⟩
  · show b < (s.heap.push oI).objs.size
    rw [size_push']
    rcases List.mem_cons.mp hb with e | hb
    · rw [e]; exact Nat.lt_succ_self _
    · rw [List.mem_singleton.mp hb]; exact Nat.lt_succ_of_lt (K.there _ hat).2
  · have := Heap.lt_size e
    rw [List.mem_singleton.mp hm] at this
    exact Nat.lt_irrefl _ this
  · obtain ⟨k1, a1, a2, _, a4⟩ := key_at hkeys hds hi
    obtain ⟨k2, b1, b2, _, b4⟩ := key_at hkeys hds hj
    refine W.rcGt_alike _ _ X.A.in1 s' vi vj [] [] (keyIs_reads (k := k1) a2) (keyIs_reads (k := k2) b2) (by rw [← a1, ← b1]; exact hal.1 _ a4 _ b4) (by rw [← a1]; exact hal.2 _ a4) ?_ X.prog X.w E' Q' (by rw [← a1, ← b1]; exact hq)
    have q1 : (dKey k1).depth ≤ PyData.depthAll (x :: ds) := by rw [← a1]; exact depth_mem a4
    have q2 := Nat.min_le_left (dKey k1).depth (dKey k2).depth
    show X.A.units + 1 + _ < _
    omega
  · have hkp : ∀ b o, s.heap.get? b = some o → s'.heap.get? b = some o := fun b o e => hm.heap b o (fun hI => absurd (Heap.lt_size e) (by rw [List.mem_singleton.mp hI]; exact Nat.lt_irrefl _)) (Heap.get?_push_of_some _ e)
    obtain ⟨k, a1, a2, _, _⟩ := key_at hkeys hds hP
    have e1 : vs.length - 1 = ds.length := by rw [hlen]; rfl
    have e2 := (W.argBest_fold (fun a b => W.dataLt b a) PyData.none x ds ds.length (Nat.le_refl _)).2
    rw [List.take_length] at e2
    rw [e1, e2] at a1
    rw [Moved.eq_with hm]
    exact ⟨kV k, H, I.kept hkp, keyIs_rel a2, q k a1.symm⟩
end
def dPickM (pick : D → List D → D) (m : DE) : DE := fun env τ => bnd (m env τ) fun v τ1 => match v with
  | .dk kvs => (match kvs.map fun kv => dKey kv.1 with
    | x :: ds => if alk (x :: ds) = true ∧ PyData.depthAll (x :: ds) ≤ 60 then some (.sh (pick x ds), τ1) else none
    | [] => none)
  | _ => none
def dminM : DE → DE := dPickM W.minD
def dmaxM : DE → DE := dPickM W.maxD
theorem rp_key {Hs : Hp} (k : Key) : Rp Hs (kV k) (dKey k) := by
  cases k with
  | inl i => exact .int i
  | inr x => exact .str x
theorem pickM_run {X : Cx} {pick : D → List D → D} {m : DE} (hp : ∀ x ds, pick x ds ∈ x :: ds) : ∀ σ H Q, tV (dPickM pick m) σ H Q → ∃ g Hs env τ v τ', Rel g Hs H σ env τ ∧ m env τ = some (v, τ') ∧ ∀ w Hs' H', Up g Hs H Hs' H' τ' → RepV g.aT Hs' H' w v → rPickM pick [w] H' Q := fun σ H Q ⟨g, Hs, env, τ, o, τ', r, hf, q⟩ => by
  obtain ⟨v, τ1, h1, h2⟩ := bnd_eq hf
  refine ⟨g, Hs, env, τ, v, τ1, r, h1, fun w Hs1 H1 u1 rv => ?_⟩
  split at h2
  · rename_i kvs
    split at h2
    · rename_i x ds hds
      split at h2
      · rename_i hok
        cases h2
        obtain ⟨p, kv, rfl, _, _, hpp, hr⟩ := rv
        have hke := kps_keys hr
        refine ⟨p, kv, x, ds, rfl, hpp, by rw [hke]; exact hds, hok.1, hok.2, fun k hk => ?_⟩
        exact q _ Hs1 H1 u1 (by rw [← hk]; exact rp_key k) fun e => by cases e
      · cases h2
    · cases h2
  · cases h2
theorem minD_in (x : D) (ds : List D) : W.minD x ds ∈ x :: ds := by
  unfold W.minD
  induction ds generalizing x with
  | nil => simp
  | cons y ys ih =>
    rw [List.foldl_cons]
    have := ih (if W.dataLt y x = true then y else x)
    rcases List.mem_cons.mp this with h | h
    · rw [h]; split <;> simp
    · simp [h]
theorem maxD_in (x : D) (ds : List D) : W.maxD x ds ∈ x :: ds := by
  unfold W.maxD
  induction ds generalizing x with
  | nil => simp
  | cons y ys ih =>
    rw [List.foldl_cons]
    have := ih (if W.dataLt x y = true then y else x)
    rcases List.mem_cons.mp this with h | h
    · rw [h]; split <;> simp
    · simp [h]
section
variable {X : Cx} {p pos : Pos} {e : Expr} {m : DE}
theorem jminM (hm : X.mg "min" = none) (hu : X.A.units + 64 < cLine) (he : JM X e m) (hc : X.calm = true := by rfl) (hg : Gl X "min" := by rfl)
    (h1 : starEach [e] X.env = (false, eval e X.env) :: starEach [] X.env := by rfl) (hpl : (backTo pos (starEach [] X.env)).any (·.1) = false := by rfl) : JV X (.Call (.Name "min" p) [e] [] pos) (dminM m) :=
  PEi (pe_callB (cr_minM hc hu) hg hm (by decide +kernel) (pa_cons he pa_nil h1) (by decide) (by decide) h1 hpl) (pickM_run (X := X) minD_in)
theorem jmaxM (hm : X.mg "max" = none) (hu : X.A.units + 64 < cLine) (he : JM X e m) (hc : X.calm = true := by rfl) (hg : Gl X "max" := by rfl)
    (h1 : starEach [e] X.env = (false, eval e X.env) :: starEach [] X.env := by rfl) (hpl : (backTo pos (starEach [] X.env)).any (·.1) = false := by rfl) : JV X (.Call (.Name "max" p) [e] [] pos) (dmaxM m) :=
  PEi (pe_callB (cr_maxM hc hu) hg hm (by decide +kernel) (pa_cons he pa_nil h1) (by decide) (by decide) h1 hpl) (pickM_run (X := X) maxD_in)
end
end Pv
namespace Pv
open PySem L2 PySem.Spec PyProof.Rows
variable [Tbl]
/-- the new set, empty -/
abbrev set0 (w : World) : Obj := { cls := .type "set", dict := none, data := .set #[] 0 (.fresh 0 0 (!w.params.followText "set-order")) }
section
variable {prog : Program} {w : World} {A : Around} {E : Value → Shared → Prop} {s : Shared}
/-- behind the loop that fills it -/
def Filled (w : World) (s : Shared) (ns : List Int) (z : Shared) : Prop := ∃ g t c, z = { s with heap := g, toks := t } ∧ SetR w g s.heap.objs.size (fun j => decide (j ∈ ns)) c ∧ c ≤ ns.length ∧ ∀ b o, s.heap.get? b = some o → g.get? b = some o
theorem set_init {l : Addr} {vs : Array Value} {ns : List Int} (hA : A.handled = none) (hl : s.heap.IsList l vs) (hi : IntsAre vs.toList ns) (hb : ns.length + 1 < scanBound) :
    wpAny (model prog w) A.in1 (Builtin.«set.__init__» ⟨[.ref s.heap.objs.size, .ref l], []⟩)
      (fun fin z => match fin with
        | .done f => wants (fun r y => r = .none ∧ Filled w s ns y) E (.ok f) z
        | .again c' => c'.quiet = true ∧ codeAny (model prog w) A c' (wants (fun r y => r = .none ∧ Filled w s ns y) E) z)
      (fun e z => wants (fun r y => r = .none ∧ Filled w s ns y) E (.error e) z) { s with heap := s.heap.push (set0 w) } := by
  have len : vs.size = ns.length := by rw [← Array.length_toList]; exact IntsAre.length hi
  have at0 : (s.heap.push (set0 w)).get? s.heap.objs.size = some (set0 w) := Heap.get?_push_size _ rfl
  have ty0 : Shared.TypeIs { s with heap := s.heap.push (set0 w) } (.ref s.heap.objs.size) "set" := ⟨_, at0, rfl⟩
  obtain ⟨⟨kc, kd, kdat, ksl⟩, at1, cl1, m1, dat1⟩ := hl
  simp only at cl1 dat1
  subst cl1
  subst dat1
  have at2 := Heap.get?_push_of_some (set0 w) at1
  have il : (s.heap.push (set0 w)).IsList l vs := ⟨_, at2, rfl, m1, rfl⟩
  have k1 := F.sub_list_set
  have k2 := F.sub_list_frozenset
  have k3 : (Value.type "list" == Value.type "dict") = false := by decide
  have low : l < s.heap.objs.size := Heap.lt_size at1
  have sz : (s.heap.push (set0 w)).objs.size = s.heap.objs.size + 1 := Heap.size_push ..
  unfold Builtin.«set.__init__» noKeywords Builtin.Frozenset.updateFrom
  generalize hP : pyIter = P0
  wp_walk
  subst hP
  refine wpAny_pyIter_list il (wpAny_bind (wpAny_runValue ?_))
  have hA2 : A.in1.in1.handled = none := by simp [hA]
  have ne1 : l ≠ (s.heap.push (set0 w)).objs.size := by rw [sz]; exact Nat.ne_of_lt (Nat.lt_succ_of_lt low)
  have nin : s.heap.objs.size ∉ [(s.heap.push (set0 w)).objs.size, l] := by
    rw [sz]
    simp only [List.mem_cons, List.not_mem_nil, or_false, not_or]
    exact ⟨Nat.ne_of_lt (Nat.lt_succ_self _), Nat.ne_of_gt low⟩
  have val : ∀ (i : Nat) (v : Value), vs[i]? = some v → ∃ k t, ns[i]? = some k ∧ v = .int k t := fun i v hv => by
    have hl : i < ns.length := by rw [← len]; exact (Array.getElem?_eq_some_iff.mp hv).1
    obtain ⟨t, e⟩ := IntsAre.int_at hi i v (by rw [Array.getElem?_toList]; exact hv)
    refine ⟨ns[i], t, List.getElem?_eq_getElem hl, ?_⟩
    rw [e, List.getD_eq_getElem?_getD, List.getElem?_eq_getElem hl]
    rfl
  have il2 := il.push { cls := .type "list_iterator", data := .fields #[.ref l, .int 0 0] }
  refine set_update_ints (Walks.list (by simp [hA]) _ l ne1 vs).toS s.heap.objs.size nin ns len hb val (vs.size - 0) 0 _ (by omega) (Nat.zero_le _)
    ⟨⟨_, Heap.get?_push_size _ rfl, rfl, rfl⟩, il2⟩ ⟨0, Nat.le_refl 0, setR_new_at (Heap.get?_push_of_some _ at0)⟩ fun z c hm hc hS => ?_
  obtain ⟨g, g2, d2, t2, o2⟩ := z
  have q1 : g2 = s.gens := hm.gens
  have q2 : d2 = s.drawn := hm.drawn
  have q3 : o2 = s.os := hm.os
  subst q1 q2 q3
  rw [len] at hc
  refine wpAny_pure (wpAny_pure ?_)
  refine ⟨rfl, g, t2, c, rfl, hS, hc, fun b o e => ?_⟩
  have lb := Heap.lt_size e
  refine hm.heap b o (fun hx => ?_) (Heap.get?_push_of_some _ (Heap.get?_push_of_some _ e))
  rw [sz] at hx
  simp only [List.mem_cons, List.not_mem_nil, or_false] at hx
  rcases hx with hx | hx
  · exact absurd hx (Nat.ne_of_lt lb)
  · exact absurd hx (Nat.ne_of_lt (Nat.lt_succ_of_lt lb))
theorem set_list {l : Addr} {vs : Array Value} {ns : List Int} {Q : Value → Shared → Prop} (hA : A.handled = none) (hl : s.heap.IsList l vs) (hi : IntsAre vs.toList ns) (hb : ns.length + 1 < scanBound)
    (h : ∀ z, Filled w s ns z → Q (.ref s.heap.objs.size) z) : wpAny (model prog w) A (call (.type "set") [.ref l]) Q E s := by
  obtain ⟨mc, mt, order⟩ := F.called_set.mro
  have f1 := F.called_set.made
  have f2 := F.called_set.sub
  have f3 := F.called_set.notType
  have f4 := F.called_set.canCreate
  have f5 := F.typeCall_set_1 (.ref l)
  have ty0 : Shared.TypeIs { s with heap := s.heap.push (set0 w) } (.ref s.heap.objs.size) "set" := ⟨_, Heap.get?_push_size _ rfl, rfl⟩
  have f6 := F.called_set.init.lookup
  have f7 := F.called_set.init.bind (.ref s.heap.objs.size)
  have body : codeAny (model prog w) A (.builtin "type.__call__" ⟨[.type "set", .ref l], []⟩) (wants Q E) s := codeAny_builtin F.entry_type_call (by
    rw [Around.under_plain (weight_type_call_type "set" [.ref l] []) rfl]
    repeat (any_goals (first | assumption | wp_step))
    refine codeAny_mono (code_set_led1 (.ref l) (E := E) (Q₁ := fun o z => o = .ref s.heap.objs.size ∧ z = { s with heap := s.heap.push (set0 w) }) ⟨rfl, rfl⟩) fun r z hr => ?_
    match r, hr with
    | .error _, hr => exact hr
    | .ok (.ret _), hr =>
      obtain ⟨rfl, rfl⟩ := hr
      repeat (any_goals (first | assumption | wp_step))
      refine codeAny_mono (codeAny_call_builtin (R := wants (fun r y => r = .none ∧ Filled w s ns y) E) F.called_set.init.plain F.entry_set_init (check_set_init_1 ty0 (set_init (A := A.in1) (by simp [hA]) hl hi hb))) fun r2 y hy => ?_
      match r2, hy with
      | .error _, hy => exact hy
      | .ok (.ret _), hy =>
        obtain ⟨rfl, hf⟩ := hy
        repeat (any_goals (first | assumption | wp_step))
        exact h _ hf)
  refine wpAny_call (codeAny_of_tree ?_)
  show wpAny _ _ (callAny (.type "set") ⟨[.ref l], []⟩) _ _ _
  exact wpAny_pure (And.intro (Code.quiet_builtin _ (by decide +kernel)) body)
end
/-- each int once, rising -/
def onceI (ns : List Int) : List Int := ns.foldl (fun a k => if k ∈ a then a else a ++ [k]) []
def sortU (ns : List Int) : List Int := (onceI ns).mergeSort fun a b => decide (a ≤ b)
theorem once_fold : ∀ (ks acc : List Int), acc.Nodup → (ks.foldl (fun a k => if k ∈ a then a else a ++ [k]) acc).Nodup ∧ ∀ x, x ∈ ks.foldl (fun a k => if k ∈ a then a else a ++ [k]) acc ↔ x ∈ acc ∨ x ∈ ks
  | [], acc, h => ⟨h, by simp⟩
  | k :: ks, acc, h => by
    rw [List.foldl_cons]
    by_cases hk : k ∈ acc
    · rw [if_pos hk]
      obtain ⟨h1, h2⟩ := once_fold ks acc h
      refine ⟨h1, fun x => ?_⟩
      rw [h2, List.mem_cons]
      constructor
      · rintro (h | h)
        · exact .inl h
        · exact .inr (.inr h)
      · rintro (h | rfl | h)
        · exact .inl h
        · exact .inl hk
        · exact .inr h
    · rw [if_neg hk]
      obtain ⟨h1, h2⟩ := once_fold ks (acc ++ [k]) (by
        rw [List.nodup_append]
        exact ⟨h, by simp, fun a ha b hb => by simp at hb; subst hb; exact fun e => hk (e ▸ ha)⟩)
      exact ⟨h1, fun x => by rw [h2]; simp [or_assoc]⟩
theorem once_nd (ns : List Int) : (onceI ns).Nodup := (once_fold ns [] List.nodup_nil).1
theorem once_mem {ns : List Int} {x : Int} : x ∈ onceI ns ↔ x ∈ ns := by
  have := (once_fold ns [] List.nodup_nil).2 x
  unfold onceI
  rw [this]
  simp
theorem rising_eq : ∀ {a b : List Int}, a.Pairwise (· < ·) → b.Pairwise (· < ·) → (∀ x, x ∈ a ↔ x ∈ b) → a = b
  | [], [], _, _, _ => rfl
  | [], y :: b, _, _, h => by have := (h y).mpr List.mem_cons_self; cases this
  | x :: a, [], _, _, h => by have := (h x).mp List.mem_cons_self; cases this
  | x :: a, y :: b, ha, hb, h => by
    rw [List.pairwise_cons] at ha hb
    have e : x = y := by
      have h1 := (h x).mp List.mem_cons_self
      have h2 := (h y).mpr List.mem_cons_self
      rcases List.mem_cons.mp h1 with h1 | h1
      · exact h1
      · rcases List.mem_cons.mp h2 with h2 | h2
        · exact h2.symm
        · have := ha.1 y h2; have := hb.1 x h1; omega
    subst e
    rw [rising_eq ha.2 hb.2 fun z => ?_]
    have hz := h z
    constructor
    · intro q
      rcases List.mem_cons.mp (hz.mp (List.mem_cons_of_mem _ q)) with e | e
      · subst e; have := ha.1 z q; omega
      · exact e
    · intro q
      rcases List.mem_cons.mp (hz.mpr (List.mem_cons_of_mem _ q)) with e | e
      · subst e; have := hb.1 z q; omega
      · exact e
theorem sortU_rise (ns : List Int) : (sortU ns).Pairwise (· < ·) := by
  have h1 := List.pairwise_mergeSort (le := fun a b : Int => decide (a ≤ b)) (fun a b c h1 h2 => by
    have := of_decide_eq_true h1; have := of_decide_eq_true h2; exact decide_eq_true (by omega)) (fun a b => by
    by_cases h : a ≤ b
    · simp [h]
    · simp [h]; omega) (onceI ns)
  have h2 : (sortU ns).Nodup := (List.mergeSort_perm _ _).nodup_iff.mpr (once_nd ns)
  unfold sortU at h2 ⊢
  refine List.Pairwise.imp (R := fun a b => a ≤ b ∧ a ≠ b) (fun h => by omega) ?_
  exact List.Pairwise.and (h1.imp fun h => of_decide_eq_true h) h2
theorem sortU_mem {ns : List Int} {x : Int} : x ∈ sortU ns ↔ x ∈ ns := by
  unfold sortU
  rw [(List.mergeSort_perm _ _).mem_iff, once_mem]
theorem sortU_eq {ns out : List Int} (h : out.Pairwise (· < ·)) (hm : ∀ x, x ∈ out ↔ x ∈ ns) : out = sortU ns := rising_eq h (sortU_rise ns) fun x => by rw [hm, sortU_mem]
section
variable {X : Cx}
def rSetL (K : PySem.W.Frag) (w : World) : List V → Hp → VK → Prop := fun xs H Q => ∃ (a : Addr) (ns : List Int), xs = [.ref a] ∧ SqL K H a (ns.map V.int) ∧ ns.length ≤ 60 ∧ ∀ p, H p = none → Q (.ref p) (upd H p (SetO w p (fun j => decide (j ∈ ns)) (onceI ns).length))
theorem cr_setL (hc : X.calm = true) : CallR X (.type "set") (rSetL X.K X.w) := by
  intro pins s σ H xs us Q I r h
  obtain ⟨a, ns, rfl, hq, hl, q⟩ := h
  rw [Vals.ref1 r]
  obtain ⟨its, rv, pl, hz⟩ := I.list hq
  refine set_list (I.ok.hd hc) pl.isList (by simpa using RZ.intsAre_vals rv) (by unfold scanBound; omega) fun z hf => ?_
  obtain ⟨g, t, c, rfl, hS, hcl, hk⟩ := hf
  have hcount : c = (onceI ns).length := by
    obtain ⟨o, es, ep, t, _, _, _, _, nd, hm, _, _, hn, _⟩ := hS
    have hp : (es.toList.map keyOf).Perm (onceI ns) := (List.perm_ext_iff_of_nodup nd (once_nd ns)).mpr fun x => by
      rw [once_mem, ← hm x, decide_eq_true_iff]
    have := hp.length_eq
    rw [List.length_map, Array.length_toList] at this
    omega
  subst hcount
  exact ⟨.ref s.heap.objs.size, _, I.laid (t' := t) hk (Nat.le_refl _) (setO_new hS), rfl, q _ (I.hok.fresh (Nat.le_refl _))⟩
def rLenSetO (w : World) : List V → Hp → VK → Prop := fun xs H Q => ∃ (a : Addr) (S : Int → Bool) (n : Nat), xs = [.ref a] ∧ H a = some (SetO w a S n) ∧ Q (.int (n : Nat)) H
theorem cr_lenSetO : CallR X (.builtin "len") (rLenSetO X.w) := by
  intro pins s σ H xs us Q I r h
  obtain ⟨a, S, n, rfl, ha, q⟩ := h
  rw [Vals.ref1 r]
  obtain ⟨o, es, ep, t, ho, hex, hd, _, _, _, hsz, hf, hn, _⟩ := setO_get I ha
  refine call_len_set ho hex hd hf (by unfold scanBound at hsz; omega) ⟨.int n, H, I.tok _, ⟨_, by rw [hn]⟩, q⟩
end
/-! by values -/
def dSortSet (f : DD) : DE := fun env τ => bnd (f env τ) fun d τ1 => match d with
  | .list ds => match toInts ds with
    | some ns => if ns.length ≤ 60 then some (.ow ((sortU ns).map .int), τ1) else none
    | none => none
  | _ => none
def dLenSet (f : DD) : DD := fun env τ => bnd (f env τ) fun d τ1 => match d with
  | .list ds => match toInts ds with
    | some ns => if ns.length ≤ 60 then some (.int ((onceI ns).length : Nat), τ1) else none
    | none => none
  | _ => none
section
variable {X : Cx} {e : Expr} {f : DD} {p p2 pos pos2 : Pos}
theorem set_run : ∀ σ H Q, (∃ g Hs env τ d τ' ns, Rel g Hs H σ env τ ∧ f env τ = some (.list d, τ') ∧ toInts d = some ns ∧ ns.length ≤ 60 ∧
      ∀ Hs' H', Up g Hs H Hs' H' τ' → ∀ a, H' a = none → Q (.ref a) (upd H' a (SetO X.w a (fun j => decide (j ∈ ns)) (onceI ns).length))) → tCB (rSetL X.K X.w) (tRs (dCons f dNil)) σ H Q := fun σ H Q ⟨g, Hs, env, τ, d, τ', ns, r, hf, hi, hl, q⟩ => by
  refine ⟨g, Hs, env, τ, [.list d], τ', r, by show bnd (f env τ) _ = _; rw [hf]; rfl, fun ws Hs1 H1 u1 r1 => ?_⟩
  obtain ⟨w, rfl, rw1⟩ := rdb1 r1
  obtain ⟨a, xs, rfl, ha, hz, hr⟩ := rw1.list u1.le
  have := toInts_eq hi
  subst this
  have := Rps.to_ints hr
  subst this
  exact ⟨a, ns, rfl, .of ha, hl, fun b hb => q Hs1 H1 u1 b hb⟩
theorem jsortSet (hm : X.mg "sorted" = none) (hm2 : X.mg "set" = none) (he : JR X e f) (hc : X.calm = true := by rfl) (hg : Gl X "sorted" := by rfl) (hg2 : Gl X "set" := by rfl)
    (h1 : starEach [e] X.env = (false, eval e X.env) :: starEach [] X.env := by rfl) (hpl : (backTo pos2 (starEach [] X.env)).any (·.1) = false := by rfl)
    (h2 : starEach [.Call (.Name "set" p2) [e] [] pos2] X.env = (false, eval (.Call (.Name "set" p2) [e] [] pos2) X.env) :: starEach [] X.env := by rfl) (hpl2 : (backTo pos (starEach [] X.env)).any (·.1) = false := by rfl) :
    JV X (.Call (.Name "sorted" p) [.Call (.Name "set" p2) [e] [] pos2] [] pos) (dSortSet f) :=
  PEi (pe_callB (cr_sortedSet hc) hg hm (by decide +kernel) (pa_cons (pe_callTy (cr_setL hc) hg2 hm2 (by decide +kernel) (jr_cons he jr_nil h1) (by decide) (by decide) h1 hpl) pa_nil h2) (by decide) (by decide) h2 hpl2) fun σ H Q ⟨g, Hs, env, τ, o, τ', r, hf, q⟩ => by
    obtain ⟨d, τ1, g1, g2⟩ := bnd_eq hf
    split at g2
    · rename_i ds
      split at g2
      · rename_i ns hi
        split at g2
        · rename_i hl
          cases g2
          refine set_run σ H _ ⟨g, Hs, env, τ, ds, τ', ns, r, g1, hi, hl, fun Hs1 H1 u1 a ha => ?_⟩
          have u2 := u1.mk1 (o := SetO X.w a (fun j => decide (j ∈ ns)) (onceI ns).length) ha
          refine ⟨a, _, _, rfl, upd_same, ?_, fun out b hs hm ho hb => ?_⟩
          · have := (List.Sublist.length_le (l₁ := onceI ns) (l₂ := onceI ns) (List.Sublist.refl _))
            have h3 : (onceI ns).length ≤ ns.length := by
              have := (once_nd ns).length_le_of_subset (l₂ := ns) fun x hx => once_mem.mp hx
              exact this
            omega
          · have e1 : out = sortU ns := sortU_eq hs fun x => by rw [hm x, decide_eq_true_iff]
            subst e1
            have hz : ((sortU ns).map V.int).length ≤ sizeLine := by
              rw [List.length_map, ho]
              have h3 : (onceI ns).length ≤ ns.length := (once_nd ns).length_le_of_subset (l₂ := ns) fun x hx => once_mem.mp hx
              rw [line_eq]; omega
            exact q _ Hs1 _ (u2.mk1 hb) ⟨b, _, rfl, u2.neT hb, u2.freeS hb, upd_same, hz, Rps.ints _⟩ fun _ p' ep => by cases ep; exact u2.old hb
        · cases g2
      · cases g2
    · cases g2
theorem jlenSet (hm : X.mg "len" = none) (hm2 : X.mg "set" = none) (he : JR X e f) (hc : X.calm = true := by rfl) (hg : Gl X "len" := by rfl) (hg2 : Gl X "set" := by rfl)
    (h1 : starEach [e] X.env = (false, eval e X.env) :: starEach [] X.env := by rfl) (hpl : (backTo pos2 (starEach [] X.env)).any (·.1) = false := by rfl)
    (h2 : starEach [.Call (.Name "set" p2) [e] [] pos2] X.env = (false, eval (.Call (.Name "set" p2) [e] [] pos2) X.env) :: starEach [] X.env := by rfl) (hpl2 : (backTo pos (starEach [] X.env)).any (·.1) = false := by rfl) :
    JD X (.Call (.Name "len" p) [.Call (.Name "set" p2) [e] [] pos2] [] pos) (dLenSet f) :=
  PEi (pe_callB cr_lenSetO hg hm (by decide +kernel) (pa_cons (pe_callTy (cr_setL hc) hg2 hm2 (by decide +kernel) (jr_cons he jr_nil h1) (by decide) (by decide) h1 hpl) pa_nil h2) (by decide) (by decide) h2 hpl2) fun σ H Q ⟨g, Hs, env, τ, o, τ', r, hf, q⟩ => by
    obtain ⟨d, τ1, g1, g2⟩ := bnd_eq hf
    split at g2
    · rename_i ds
      split at g2
      · rename_i ns hi
        split at g2
        · rename_i hl
          cases g2
          refine set_run σ H _ ⟨g, Hs, env, τ, ds, τ', ns, r, g1, hi, hl, fun Hs1 H1 u1 a ha => ?_⟩
          exact ⟨a, _, _, rfl, upd_same, q _ Hs1 _ (u1.mk1 ha) (.int _)⟩
        · cases g2
      · cases g2
    · cases g2
end
end Pv
namespace Pv
open PySem L2 PySem.Spec PyProof.Rows
variable [Tbl]
def rngC (lo c : Int) (n : Nat) : List D := (List.range n).map fun (i : Nat) => PyData.int (lo + (i : Int) * c)
def smallI (i : Int) : Bool := decide (-16777216 ≤ i ∧ i ≤ 16777216)
def dlistRg1 (f : DD) : DE := fun env τ => bnd (f env τ) fun x τ1 => match x with
  | .int b => if smallI b = true then some (.ow (rngL 0 (b - 0).toNat), τ1) else none
  | _ => none
def dlistRg2 (f k : DD) : DE := fun env τ => bnd (f env τ) fun x τ1 => bnd (k env τ1) fun y τ2 => match x, y with
  | .int a, .int b => if smallI a = true ∧ smallI b = true ∧ (b - a).toNat ≤ 16777216 then some (.ow (rngL a (b - a).toNat), τ2) else none
  | _, _ => none
def dtupRg1 (f : DD) : DD := fun env τ => bnd (f env τ) fun x τ1 => match x with
  | .int b => if smallI b = true then some (.tuple (rngL 0 (b - 0).toNat), τ1) else none
  | _ => none
def dtupRg2 (f k : DD) : DD := fun env τ => bnd (f env τ) fun x τ1 => bnd (k env τ1) fun y τ2 => match x, y with
  | .int a, .int b => if smallI a = true ∧ smallI b = true ∧ (b - a).toNat ≤ 16777216 then some (.tuple (rngL a (b - a).toNat), τ2) else none
  | _, _ => none
theorem rgV_rps {Hs : Hp} (a b : Int) : Rps Hs (rgV a b) (rngL a (b - a).toNat) := by
  unfold rgV rngL
  have : ∀ l : List Nat, Rps Hs (l.map fun i => V.int (a + (i : Nat))) (l.map fun (i : Nat) => PyData.int (a + (i : Int))) := fun l => by
    induction l with
    | nil => exact .nil
    | cons x l ih => exact .cons (.int _) ih
  exact this _
theorem rng_cm (lo : Int) (n : Nat) : cmL (rngL lo n) = false := by
  unfold rngL
  cases n with
  | zero => rfl
  | succ n => rw [List.range_succ_eq_map]; rfl
theorem rgok_of {a b : Int} (h1 : smallI a = true) (h2 : smallI b = true) (h3 : (b - a).toNat ≤ 16777216) : RgOk a b := by
  have := of_decide_eq_true h1
  have := of_decide_eq_true h2
  exact ⟨by omega, by omega, by omega, by omega, by omega⟩
theorem rgV_le {a b : Int} (h3 : (b - a).toNat ≤ 16777216) : (rgV a b).length ≤ sizeLine := by rw [rgV_length, line_eq]; exact h3
section
variable {X : Cx} {a b : Expr} {f k : DD} {p p2 pos pos2 : Pos}
theorem jlistRg1 (hm : X.mg "list" = none) (hm2 : X.mg "range" = none) (ha : JD X a f) (hc : X.calm = true := by rfl) (hg : Gl X "list" := by rfl) (hg2 : Gl X "range" := by rfl)
    (na : starEach [a] X.env = (false, eval a X.env) :: starEach [] X.env := by rfl) (nb : starEach [.Call (.Name "range" p2) [a] [] pos2] X.env = (false, eval (.Call (.Name "range" p2) [a] [] pos2) X.env) :: starEach [] X.env := by rfl) :
    JV X (.Call (.Name "list" p) [.Call (.Name "range" p2) [a] [] pos2] [] pos) (dlistRg1 f) :=
  PEi (pe_listRg hc hg hm (prg_1 hg2 hm2 ha na) nb) fun σ H Q ⟨g, Hs, env, τ, o, τ', r, hf, q⟩ => by
    obtain ⟨d, τ1, g1, g2⟩ := bnd_eq hf
    split at g2
    · rename_i n
      split at g2
      · rename_i hs
        cases g2
        refine ⟨g, Hs, env, τ, .int n, τ', r, g1, fun w Hs1 H1 u1 r1 => ?_⟩
        cases r1
        have hl : (n - 0).toNat ≤ 16777216 := by have := of_decide_eq_true hs; omega
        refine ⟨n, rfl, rgok_of (by decide) hs hl, fun c hc => ?_⟩
        exact q _ Hs1 _ (u1.mk1 hc) ⟨c, _, rfl, u1.neT hc, u1.freeS hc, upd_same, rgV_le hl, rgV_rps 0 n⟩ fun _ p' ep => by cases ep; exact u1.old hc
      · cases g2
    · cases g2
theorem jtupRg1 (hm : X.mg "tuple" = none) (hm2 : X.mg "range" = none) (ha : JD X a f) (hc : X.calm = true := by rfl) (hg : Gl X "tuple" := by rfl) (hg2 : Gl X "range" := by rfl)
    (na : starEach [a] X.env = (false, eval a X.env) :: starEach [] X.env := by rfl) (nb : starEach [.Call (.Name "range" p2) [a] [] pos2] X.env = (false, eval (.Call (.Name "range" p2) [a] [] pos2) X.env) :: starEach [] X.env := by rfl) :
    JD X (.Call (.Name "tuple" p) [.Call (.Name "range" p2) [a] [] pos2] [] pos) (dtupRg1 f) :=
  PEi (pe_tupRg hc hg hm (prg_1 hg2 hm2 ha na) nb) fun σ H Q ⟨g, Hs, env, τ, o, τ', r, hf, q⟩ => by
    obtain ⟨d, τ1, g1, g2⟩ := bnd_eq hf
    split at g2
    · rename_i n
      split at g2
      · rename_i hs
        cases g2
        refine ⟨g, Hs, env, τ, .int n, τ', r, g1, fun w Hs1 H1 u1 r1 => ?_⟩
        cases r1
        have hl : (n - 0).toNat ≤ 16777216 := by have := of_decide_eq_true hs; omega
        refine ⟨n, rfl, rgok_of (by decide) hs hl, fun c hc => ?_⟩
        exact q _ _ _ (u1.new hc) (.tup (.of upd_same (rng_cm _ _)) (rgV_le hl) (rgV_rps 0 n))
      · cases g2
    · cases g2
theorem jlistRg2 (hm : X.mg "list" = none) (hm2 : X.mg "range" = none) (ha : JD X a f) (hb : JD X b k) (hc : X.calm = true := by rfl) (hg : Gl X "list" := by rfl) (hg2 : Gl X "range" := by rfl)
    (na : starEach [a, b] X.env = (false, eval a X.env) :: starEach [b] X.env := by rfl) (na2 : starEach [b] X.env = (false, eval b X.env) :: starEach [] X.env := by rfl) (hpl : (backTo pos2 (starEach [b] X.env)).any (·.1) = false := by rfl)
    (nb : starEach [.Call (.Name "range" p2) [a, b] [] pos2] X.env = (false, eval (.Call (.Name "range" p2) [a, b] [] pos2) X.env) :: starEach [] X.env := by rfl) :
    JV X (.Call (.Name "list" p) [.Call (.Name "range" p2) [a, b] [] pos2] [] pos) (dlistRg2 f k) :=
  PEi (pe_listRg hc hg hm (prg_2 hg2 hm2 ha hb na na2 hpl) nb) fun σ H Q ⟨g, Hs, env, τ, o, τ', r, hf, q⟩ => by
    obtain ⟨d, τ1, g1, g2⟩ := bnd_eq hf
    obtain ⟨e, τ2, g3, g4⟩ := bnd_eq g2
    split at g4
    · rename_i n m
      split at g4
      · rename_i hs
        cases g4
        refine ⟨g, Hs, env, τ, .int n, τ1, r, g1, fun w Hs1 H1 u1 r1 => ⟨g, Hs1, env, τ1, .int m, τ', r.up u1, g3, fun w2 Hs2 H2 u2 r2 => ?_⟩⟩
        cases r1
        cases r2
        refine ⟨n, m, rfl, rfl, rgok_of hs.1 hs.2.1 hs.2.2, fun c hc => ?_⟩
        have u := u1.trans u2
        exact q _ Hs2 _ (u.mk1 hc) ⟨c, _, rfl, u.neT hc, u.freeS hc, upd_same, rgV_le hs.2.2, rgV_rps n m⟩ fun _ p' ep => by cases ep; exact u.old hc
      · cases g4
    · cases g4
theorem jtupRg2 (hm : X.mg "tuple" = none) (hm2 : X.mg "range" = none) (ha : JD X a f) (hb : JD X b k) (hc : X.calm = true := by rfl) (hg : Gl X "tuple" := by rfl) (hg2 : Gl X "range" := by rfl)
    (na : starEach [a, b] X.env = (false, eval a X.env) :: starEach [b] X.env := by rfl) (na2 : starEach [b] X.env = (false, eval b X.env) :: starEach [] X.env := by rfl) (hpl : (backTo pos2 (starEach [b] X.env)).any (·.1) = false := by rfl)
    (nb : starEach [.Call (.Name "range" p2) [a, b] [] pos2] X.env = (false, eval (.Call (.Name "range" p2) [a, b] [] pos2) X.env) :: starEach [] X.env := by rfl) :
    JD X (.Call (.Name "tuple" p) [.Call (.Name "range" p2) [a, b] [] pos2] [] pos) (dtupRg2 f k) :=
  PEi (pe_tupRg hc hg hm (prg_2 hg2 hm2 ha hb na na2 hpl) nb) fun σ H Q ⟨g, Hs, env, τ, o, τ', r, hf, q⟩ => by
    obtain ⟨d, τ1, g1, g2⟩ := bnd_eq hf
    obtain ⟨e, τ2, g3, g4⟩ := bnd_eq g2
    split at g4
    · rename_i n m
      split at g4
      · rename_i hs
        cases g4
        refine ⟨g, Hs, env, τ, .int n, τ1, r, g1, fun w Hs1 H1 u1 r1 => ⟨g, Hs1, env, τ1, .int m, τ', r.up u1, g3, fun w2 Hs2 H2 u2 r2 => ?_⟩⟩
        cases r1
        cases r2
        refine ⟨n, m, rfl, rfl, rgok_of hs.1 hs.2.1 hs.2.2, fun c hc => ?_⟩
        have u := u1.trans u2
        exact q _ _ _ (u.new hc) (.tup (.of upd_same (rng_cm _ _)) (rgV_le hs.2.2) (rgV_rps n m))
      · cases g4
    · cases g4
end
/-! list(range(a, b, 2)) -/
def evN (a b : Int) : Nat := ((b - a + 1) / 2).toNat
theorem evN_size {a b : Int} : Builtin.Range.rangeSize a b 2 = (evN a b : Nat) := by
  unfold Builtin.Range.rangeSize evN
  rw [if_pos (by decide)]
  split <;> omega
theorem small_two {a b : Int} (h1 : smallI a = true) (h2 : smallI b = true) : Builtin.Range.small a b 2 = true := by
  have h1 := of_decide_eq_true h1
  have h2 := of_decide_eq_true h2
  unfold Builtin.Range.small
  rw [evN_size]
  simp only [Builtin.Range.rangeFitsLong, Bool.and_eq_true, Bool.or_eq_true, decide_eq_true_eq, beq_iff_eq, show (2 : Int) > 0 by decide, if_true]
  unfold evN
  omega
theorem rngC_get {xs : List Value} {lo : Int} {n : Nat} (h1 : xs.length = n) (h2 : ∀ (j : Nat) (v : Value), xs[j]? = some v → ∃ t, v = Value.int (lo + (j : Int) * 2) t) : Vals ((List.range n).map fun (i : Nat) => V.int (lo + (i : Int) * 2)) xs := by
  subst h1
  exact vals_of_get xs _ fun j u hj => h2 j u hj
def rgC2 (a b : Int) : List V := (List.range (evN a b)).map fun (i : Nat) => V.int (a + (i : Int) * 2)
theorem rgC2_rps {Hs : Hp} (a b : Int) : Rps Hs (rgC2 a b) (rngC a 2 (evN a b)) := by
  unfold rgC2 rngC
  have : ∀ l : List Nat, Rps Hs (l.map fun (i : Nat) => V.int (a + (i : Int) * 2)) (l.map fun (i : Nat) => PyData.int (a + (i : Int) * 2)) := fun l => by
    induction l with
    | nil => exact .nil
    | cons x l ih => exact .cons (.int _) ih
  exact this _
def tLst3 (ta : TA) : TE := fun σ H Q => ta σ H fun vs H1 => ∃ i j : Int, vs = [.int i, .int j, .int 2] ∧ smallI i = true ∧ smallI j = true ∧ ∀ q, H1 q = none → Q (.ref q) (upd H1 q (.lst (rgC2 i j)))
theorem evN_le {i j : Int} (h1 : smallI i = true) (h2 : smallI j = true) : evN i j ≤ 16777217 := by
  have h1 := of_decide_eq_true h1
  have h2 := of_decide_eq_true h2
  unfold evN; omega
section
variable {X : Cx} {a b c : Expr} {p p2 pos pos2 : Pos}
theorem pe_listRg3 {ta : TA} (hc : X.calm = true) (hg : Gl X "list") (hm : X.mg "list" = none) (hg2 : Gl X "range") (hm2 : X.mg "range" = none) (ha : PA X [a, b, c] ta)
    (hs : starEach [a, b, c] X.env = (false, eval a X.env) :: starEach [b, c] X.env) (hpl : (backTo pos2 (starEach [b, c] X.env)).any (·.1) = false)
    (nb : starEach [.Call (.Name "range" p2) [a, b, c] [] pos2] X.env = (false, eval (.Call (.Name "range" p2) [a, b, c] [] pos2) X.env) :: starEach [] X.env) :
    PE X (.Call (.Name "list" p) [.Call (.Name "range" p2) [a, b, c] [] pos2] [] pos) (tLst3 ta) := ⟨fun pins s σ H Q I h => by
  have inner : wpAny (model X.prog X.w) X.A (eval (.Call (.Name "range" p2) [a, b, c] [] pos2) X.env) (fun z s2 => wpAny (model X.prog X.w) X.A (call (.type "list") [z]) (EP X pins σ Q) X.xe s2) X.xe s := by
    refine Call_ (ld_blt I hg2 hm2 boot_range (callWith_type1 (thn (ha.run pos2 pins s σ H _ I h) fun us s1 ⟨vs, H1, I1, r1, q1⟩ => ?_) hs hpl))
    obtain ⟨i, j, rfl, h1, h2, q⟩ := q1
    cases r1 with
    | cons a1 r1 => cases r1 with
    | cons a2 r1 => cases r1 with
    | cons a3 r1 =>
      cases r1
      obtain ⟨t1, rfl⟩ := a1
      obtain ⟨t2, rfl⟩ := a2
      obtain ⟨t3, rfl⟩ := a3
      refine call_range_3 (by decide) ?_ (.inl (PyProof.noPylong_small (by decide)))
      have I2 := I1.kept (t' := s1.toks) fun b o e => Heap.get?_push_of_some { cls := .type "range", data := .fields #[.int i t1, .int j t2, .int 2 t3] } e
      by_cases hn : evN i j ≤ 16777216
      · refine call_list_range (n := evN i j) (I2.ok.hd hc) (IsRange.new ..) (small_two h1 h2) evN_size hn fun h' tk acc m hk e' hi => ?_
        have hlen : acc.toList.length = evN i j := by rw [Array.length_toList]; exact hi.1
        refine ⟨.ref _, _, I2.laid (t' := tk) (o := .lst (rgC2 i j)) hk (Nat.le_refl _) ⟨?_, acc.toList, m, rngC_get hlen fun y v hy => ?_, ?_⟩, rfl, q _ (I2.hok.fresh (Nat.le_refl _))⟩
        · unfold rgC2; rw [List.length_map, List.length_range, line_eq]; exact hn
        · exact hi.2 y v (by rw [← Array.getElem?_toList]; exact hy)
        · rw [Array.toArray_toList]; exact e'
      · exfalso
        have h1 := of_decide_eq_true h1
        have h2 := of_decide_eq_true h2
        unfold evN at hn
        omega
  exact Call_ (ld_blt I hg hm boot_list (callWith_type1 (args_cons (wpAny_mono inner (fun v s1 hv => args_nil hv) fun _ _ e => e) nb) nb rfl))⟩
def dlistRg3 (f k : DD) : DE := fun env τ => bnd (f env τ) fun x τ1 => bnd (k env τ1) fun y τ2 => match x, y with
  | .int a, .int b => if smallI a = true ∧ smallI b = true then some (.ow (rngC a 2 (evN a b)), τ2) else none
  | _, _ => none
theorem jlistRg3 {f k : DD} {j : Nat} {p3 : Pos} (hm : X.mg "list" = none) (hm2 : X.mg "range" = none) (ha : JD X a f) (hb : JD X b k) (hc : X.calm = true := by rfl) (hg : Gl X "list" := by rfl) (hg2 : Gl X "range" := by rfl)
    (hs : starEach [a, b, .Constant (.int 2) j p3] X.env = (false, eval a X.env) :: starEach [b, .Constant (.int 2) j p3] X.env := by rfl) (hs2 : starEach [b, .Constant (.int 2) j p3] X.env = (false, eval b X.env) :: starEach [.Constant (.int 2) j p3] X.env := by rfl) (hs3 : starEach [.Constant (.int 2) j p3] X.env = (false, eval (.Constant (.int 2) j p3) X.env) :: starEach [] X.env := by rfl)
    (hpl : (backTo pos2 (starEach [b, .Constant (.int 2) j p3] X.env)).any (·.1) = false := by rfl)
    (nb : starEach [.Call (.Name "range" p2) [a, b, .Constant (.int 2) j p3] [] pos2] X.env = (false, eval (.Call (.Name "range" p2) [a, b, .Constant (.int 2) j p3] [] pos2) X.env) :: starEach [] X.env := by rfl) :
    JV X (.Call (.Name "list" p) [.Call (.Name "range" p2) [a, b, .Constant (.int 2) j p3] [] pos2] [] pos) (dlistRg3 f k) :=
  PEi (pe_listRg3 hc hg hm hg2 hm2 (pa_cons ha (pa_cons hb (pa_cons pe_int pa_nil hs3) hs2) hs) hs hpl nb) fun σ H Q ⟨g, Hs, env, τ, o, τ', r, hf, q⟩ => by
    obtain ⟨d, τ1, g1, g2⟩ := bnd_eq hf
    obtain ⟨e, τ2, g3, g4⟩ := bnd_eq g2
    split at g4
    · rename_i n m
      split at g4
      · rename_i h
        cases g4
        refine ⟨g, Hs, env, τ, .int n, τ1, r, g1, fun w Hs1 H1 u1 r1 => ⟨g, Hs1, env, τ1, .int m, τ', r.up u1, g3, fun w2 Hs2 H2 u2 r2 => ?_⟩⟩
        cases r1
        cases r2
        have u := u1.trans u2
        refine ⟨n, m, rfl, h.1, h.2, fun c hc => ?_⟩
        have hl : (rgC2 n m).length ≤ sizeLine := by
          have h1 := of_decide_eq_true h.1
          have h2 := of_decide_eq_true h.2
          unfold rgC2 evN; rw [List.length_map, List.length_range, line_eq]; omega
        exact q _ Hs2 _ (u.mk1 hc) ⟨c, _, rfl, u.neT hc, u.freeS hc, upd_same, hl, rgC2_rps n m⟩ fun _ p' ep => by cases ep; exact u.old hc
      · cases g4
    · cases g4
end
end Pv
namespace Pv
open PySem L2 PySem.Spec PyProof.Rows
variable [Tbl]
section
variable {X : Cx}
def rDictT (K : PySem.W.Frag) : List V → Hp → VK → Prop := fun xs H Q => ∃ (a : Addr) (o : Obj) (ps : List Addr) (kvs : List (Key × V)), xs = [.ref a] ∧ H a = some (.frz o (.tup (ps.map V.ref))) ∧ o.dict = none ∧ Paired (fun p kv => SqT K H p [kV kv.1, kv.2]) ps kvs ∧
  ∀ p, H p = none → Q (.ref p) (upd H p (.dK (mergeK [] kvs)))
theorem cr_dictT (hc : X.calm = true) : CallR X (.type "dict") (rDictT X.K) := fun pins s σ H xs us Q I r h => by
  obtain ⟨a, o, ps, kvs, rfl, ha, ho, hp, q⟩ := h
  rw [Vals.ref1 r]
  obtain ⟨hg, hz, its, rv, o2, hg2, hcl, n, hdat⟩ := (show ObjOk X.prog X.w H s.heap a (.frz o (.tup (ps.map V.ref))) from I.hok a _ ha)
  rw [hg] at hg2
  cases hg2
  have ei := refs_at rv
  subst ei
  rw [List.length_map] at hz
  obtain ⟨prs, rel, hl, hpr⟩ := pairs_of I hp
  let Ts : Nat → Addr := fun j => ps.getD j 0
  let vp : List (Value × Value) := (List.range prs.length).map fun j => (match s.heap.get? (Ts j) with
    | some ob => (match ob.data with
      | .seq ar _ => ar.getD 0 .none
      | _ => .none)
    | none => .none, (prs.getD j (.inl 0, .none)).2)
  have vlen : vp.length = prs.length := by simp [vp]
  have vat : ∀ (j : Nat) (k v : Value), vp[j]? = some (k, v) → ∃ (b : Addr) (q : Key × Value), ps[j]? = some b ∧ prs[j]? = some q ∧ v = q.2 ∧ IsTup s.heap b #[k, v] ∧ keyIs q.1 k = true ∧ Ts j = b := fun j k v hj => by
    have hjl : j < prs.length := by rw [← vlen]; exact (List.getElem?_eq_some_iff.mp hj).1
    obtain ⟨q, hq⟩ : ∃ q, prs[j]? = some q := ⟨_, List.getElem?_eq_getElem hjl⟩
    obtain ⟨b, u, e1, e2, e3⟩ := hpr j q hq
    have et : Ts j = b := by show ps.getD j 0 = b; rw [List.getD_eq_getElem?_getD, e1]; rfl
    have hv := hj
    simp only [vp, List.getElem?_map, List.getElem?_range hjl, Option.map_some, Option.some.injEq, Prod.mk.injEq] at hv
    obtain ⟨ob, g1, g2, m, g3⟩ := id e2
    rw [et, g1] at hv
    dsimp only at hv
    rw [g3] at hv
    have ev : v = q.2 := by rw [← hv.2, List.getD_eq_getElem?_getD, hq]; rfl
    have ek : k = u := hv.1.symm
    subst ek
    exact ⟨b, q, e1, hq, ev, by rw [ev]; exact e2, e3, et⟩
  have OK : PlainSeq "tuple" s.heap a (ps.map Value.ref).toArray ∧ PairItems s.heap (ps.map Value.ref).toArray Ts vp := by
    refine ⟨⟨o, n, hg, hcl, ho, hdat⟩, by simp [vlen, hl], fun j k v hj => ?_⟩
    obtain ⟨b, q, e1, _, _, e2, _, et⟩ := vat j k v hj
    exact ⟨by rw [et]; simp [e1], by rw [et]; exact .inl e2⟩
  have hhave : PairsHave (mixKind X.prog X.w) vp.length (PairRel vp) prs := ⟨vlen.symm, fun j k v hj => by
    obtain ⟨b, q, _, e1, e2, _, e3, _⟩ := vat j k v hj
    exact ⟨q.1, by rw [e1, e2], e3⟩⟩
  refine PySem.call_dict_pairs (PairArg.tuple a (ps.map Value.ref).toArray Ts vp) (I.ok.hd hc) OK hhave (by rw [vlen, hl]; exact hz) fun h' tk hd hk => ?_
  have hm : (s.heap.objs.size == sysModules) = false := beq_eq_false_iff_ne.mpr (Nat.ne_of_gt I.big)
  have hlen : (mergeK [] kvs).length ≤ sizeLine := by
    have := length_mergeK kvs []
    have e := rel.length
    rw [List.length_nil] at this
    omega
  exact ⟨.ref s.heap.objs.size, _, I.laid (t' := tk) (o := .dK (mergeK [] kvs)) (fun b o e => hk b o (by simp) e) (Nat.le_refl _) ⟨hlen, hm, _, KV.merge rel .nil, hd⟩, rfl, q _ (I.hok.fresh (Nat.le_refl _))⟩
end
def dDictT (f : DD) : DE := fun env τ => bnd (f env τ) fun d τ1 => match d with
  | .tuple ds => if cmL ds = true then match pairsK ds with
    | some prs => some (.dk (mergeD [] prs), τ1)
    | none => none
    else none
  | _ => none
theorem jdictT {X : Cx} {p pos : Pos} {e : Expr} {f : DD} (hm : X.mg "dict" = none) (he : JD X e f) (hcalm : X.calm = true := by rfl) (hg : Gl X "dict" := by rfl)
    (h1 : starEach [e] X.env = (false, eval e X.env) :: starEach [] X.env := by rfl) (hpl : (backTo pos (starEach [] X.env)).any (·.1) = false := by rfl) : JV X (.Call (.Name "dict" p) [e] [] pos) (dDictT f) :=
  PEi (pe_callTy (cr_dictT hcalm) hg hm (by decide +kernel) (ja_cons he ja_nil h1) (by decide) (by decide) h1 hpl) fun σ H Q ⟨g, Hs, env, τ, o, τ', r, hf, q⟩ => by
    obtain ⟨d, τ1, h1, h2⟩ := bnd_eq hf
    refine ⟨g, Hs, env, τ, [d], τ1, r, by show bnd (f env τ) _ = _; rw [h1]; rfl, fun ws Hs1 H1 u1 r1 => ?_⟩
    split at h2
    · rename_i ds
      split at h2
      · rename_i hcm
        split at h2
        · rename_i prs hp
          cases h2
          cases r1 with
          | cons rw1 r1 =>
            cases r1
            cases rw1 with
            | tup e1 e2 e3 =>
              obtain ⟨ob, hd, hat⟩ := e1.mono u1.le
              rw [hcm] at hat
              obtain ⟨ps, kvs, rfl, hps, hk⟩ := pairs_v (K := X.K) u1.le hp e3
              refine ⟨_, ob, ps, kvs, rfl, hat, hd, hps, fun p hp' => ?_⟩
              exact q _ Hs1 _ (u1.mk1 hp') ⟨p, _, rfl, u1.neT hp', u1.freeS hp', upd_same, Kps.merge hk .nil⟩ fun _ p' e => by cases e; exact u1.old hp'
        · cases h2
      · cases h2
    · cases h2
end Pv
namespace Pv
open PySem L2 PySem.Spec PyProof.Rows
variable [Tbl]
/-- D[y] = z, y a tuple of ints and texts -/
theorem put_tup {X : Cx} {pins : List (Addr × Obj)} {σ : L2.St} {H : Hp} {s : Shared} {E : Value → Shared → Prop} {D b : Addr} {kvs : List (List Key × V)} {k : List Key} {z : V} {r : Value} {Q : Unit → Shared → Prop} (hu : X.A.units + 1 < cLine) (I : Inv X pins σ H s)
    (hD : H D = some (.dT kvs)) (hb : H b = some (.tup (k.map kV))) (hl : kvs.length < sizeLine) (rv : RelV z r) (h : ∀ s', Inv X pins σ (upd H D (.dT (putK kvs k z))) s' → Q () s') : wpAny (model X.prog X.w) X.A (dictSet D (.ref b) r) Q E s := by
  obtain ⟨c1, c2, xs, rel, dd⟩ := dt_of I.hok hD
  have hx : xs.length ≤ sizeLine := Paired.length rel ▸ c1
  have room : (tupleKind (mixKind X.prog X.w)).room X.A := show X.A.units < cLine from Nat.lt_of_succ_lt hu
  refine wpAny_dictSet_heap (hsz := hx) room (key_of I.hok hb) dd fun g dg hs => h _ ?_
  obtain ⟨q, es, ep, a1, a2, a3, a4, _, a5⟩ := dg
  have hn : (putK kvs k z).length ≤ sizeLine := by
    have := length_putK kvs k z
    omega
  have keep : ∀ (c : Addr) (ys : List V), H c = some (.tup ys) → upd H D (.dT (putK kvs k z)) c = some (.tup ys) := fun c ys ec => by
    rw [upd_ne (ne_of ec hD fun e => nomatch e), ec]
  exact d_write I (hD ▸ True.intro) hs ⟨q, a1⟩ (And.intro hn (And.intro c2 ⟨_, (rel.put k hb rv).keeps keep, q, es, ep, a1, a2, a3, a4, a5⟩))
/-- {k: v for target in iter if ..}, the keys tuples: D the new dict -/
def tDcT (wi : TI) (g : TG) (tt : TT) (tk tv : TE) (vs : List Nat) : TE := fun σ H Q => wi σ H fun J H1 => ∀ D, H1 D = none → ∃ W : Nat → Nat → Hp → Prop, (∃ m, W 0 m (upd H1 D (.dT []))) ∧ ∀ i m H, W i m H →
  (J.stop i H ∧ Q (.ref D) H) ∨ (J.go i H ∧ ∃ Nx : Hp → Prop, (∀ H', Nx H' → ∃ m', m' < m ∧ W (i + 1) m' H') ∧ ∀ x H', J.yld i H x H' → g x (wipe σ vs) H' fun σ2 H2 => wipe σ2 vs = wipe σ vs ∧ tt σ2 H2 fun b H3 =>
    if b = true then tk σ2 H3 fun y H4 => tv σ2 H4 fun z H5 => ∃ kvs k a, y = .ref a ∧ H5 a = some (.tup (List.map kV k)) ∧ H5 D = some (.dT kvs) ∧ kvs.length < sizeLine ∧ Nx (upd H5 D (.dT (putK kvs k z))) else Nx H3)
section
variable {X : Cx} {kx vx tg iter : Expr} {ifs : List Expr} {scope : Scope} {own : List (Str × Nat)} {wi : TI} {g : TG} {tt : TT} {tk tv : TE}
/-- what stands at the loop's head -/
def HeadT (X : Cx) (s3 : Shared) (H3 : Hp) (scope : Scope) (ce : Env) (fp : List Addr) (vs : List Nat) (σ : L2.St) (tn : Nat → Heap → Prop) (W : Nat → Nat → Hp → Prop) (n : Nat) (s : Shared) : Prop :=
  ∃ i H', Inv (X.blk s3 H3 scope ce fp) [] (L2.wipe σ vs) H' s ∧ tn i s.heap ∧ (∀ b ∈ fp, H' b = none) ∧ W i n H'
theorem pe_dcT {pos : Pos} (hc : X.calm = true) (hu : X.A.units + 64 < cLine) (hN : X.N.Nodup) (hi : PI X tg iter wi) (ok : BlkOk X.N X.env.scope scope own)
    (hg : ∀ (s : Shared) (H : Hp) (C : Addr) (cl : List (Str × Addr)) (fp : List Addr), PG (X.blk s H scope (compEnvC scope cl C X.env) fp) tg g)
    (ht : ∀ (s : Shared) (H : Hp) (C : Addr) (cl : List (Str × Addr)) (fp : List Addr), PTs (X.blk s H scope (compEnvC scope cl C X.env) fp) ifs tt)
    (hk : ∀ (s : Shared) (H : Hp) (C : Addr) (cl : List (Str × Addr)) (fp : List Addr), PE (X.blk s H scope (compEnvC scope cl C X.env) fp) kx tk)
    (he : ∀ (s : Shared) (H : Hp) (C : Addr) (cl : List (Str × Addr)) (fp : List Addr), PE (X.blk s H scope (compEnvC scope cl C X.env) fp) vx tv)
    (hs : ∀ x, foldedSetIterable iter X.env x = pure x := by intro _; rfl) : PE X (.DictComp kx vx [⟨tg, iter, ifs, 0⟩] scope pos) (tDcT wi g tt tk tv (own.map (·.2))) := ⟨fun pins s σ H Q I h => by
  have free : ∀ y ∈ scope.names, y.2 = .free → ∃ c, X.env.cells.lookup y.1 = some c := fun y hy e => I.ok.has _ (ok.free y hy e)
  rw [arm_eval_DictComp]
  refine wpAny_comprehension_free rfl hs (closure_ok free) ok.kind (fun y hy e => (ok.uniq y hy).trans (congrArg some e)) ?_
  refine thn (hi.run pins s σ H _ I h) fun xv s1 hx => thn hx fun itv s2 hit => ?_
  obtain ⟨it, fp, tn, J, H2, rfl, I2, T, st2, f2, q⟩ := hit
  refine wpAny_newObj_type (newEnv_comp ?_)
  have hDn : H2 s2.heap.objs.size = none := I2.hok.fresh (Nat.le_refl _)
  obtain ⟨W, ⟨m0, w0⟩, turn⟩ := q _ hDn
  -- the new dict
  have new2 : ∀ b o, s2.heap.get? b = some o → (s2.heap.push { cls := .type "dict", data := .dict #[] }).get? b = some o := fun b o e => Heap.get?_push_of_some _ e
  have I3 : Inv X pins σ (upd H2 s2.heap.objs.size (.dT [])) { s2 with heap := s2.heap.push { cls := .type "dict", data := .dict #[] } } := I2.laid (t' := s2.toks) new2 (Nat.le_refl _) (dt_empty s2.heap I2.big)
  have f3 : ∀ b ∈ fp, FpOk X pins (upd H2 s2.heap.objs.size (.dT [])) b ∧ b < (s2.heap.push { cls := .type "dict", data := .dict #[] }).objs.size := fun b hb => by
    obtain ⟨o, e, _⟩ := T.obj _ _ st2 b hb
    have lt := Heap.lt_size e
    have nb := upd_ne (H := H2) (o := HO.dT []) (Nat.ne_of_lt lt)
    exact ⟨⟨nb.trans (f2 b hb).1, (f2 b hb).2⟩, (Heap.size_push ..) ▸ Nat.lt_succ_of_lt lt⟩
  have st3 : tn 0 (s2.heap.push { cls := .type "dict", data := .dict #[] }) := T.keep _ _ _ st2 fun b _ => new2 b
  generalize upd H2 s2.heap.objs.size (.dT []) = H3 at I3 f3 w0
  generalize hs3 : ({ s2 with heap := s2.heap.push { cls := .type "dict", data := .dict #[] } } : Shared) = s3 at I3
  have h3 : s2.heap.push { cls := .type "dict", data := .dict #[] } = s3.heap := by rw [← hs3]
  rw [h3] at f3 st3
  generalize s2.heap.objs.size = D at w0 turn ⊢
  -- the block
  have I4 := block_start I3 ok hN f3
  have bg := hg s3 H3 s3.heap.objs.size (cellsFrom (s3.heap.objs.size + 1) scope.names (cloFrom X.env.cells scope.names [])) fp
  have bt := ht s3 H3 s3.heap.objs.size (cellsFrom (s3.heap.objs.size + 1) scope.names (cloFrom X.env.cells scope.names [])) fp
  have bk := hk s3 H3 s3.heap.objs.size (cellsFrom (s3.heap.objs.size + 1) scope.names (cloFrom X.env.cells scope.names [])) fp
  have bv := he s3 H3 s3.heap.objs.size (cellsFrom (s3.heap.objs.size + 1) scope.names (cloFrom X.env.cells scope.names [])) fp
  have goal : ∀ ce, ce = compEnvC scope (cellsFrom (s3.heap.objs.size + 1) scope.names (cloFrom X.env.cells scope.names [])) s3.heap.objs.size X.env →
      codeAny (model X.prog X.w) X.A (.compStart (.DictComp kx vx [⟨tg, iter, ifs, 0⟩] scope pos) 0 (.ref it) (.ref D) ce) (compPost (model X.prog X.w) X.A X.xe none (EP X pins σ Q) (.ref D) s3.heap.objs.size) { s3 with heap := pushCells (s3.heap.push { cls := .type "dict", data := .dict #[] }) scope.names } := fun ce hce => by
    rw [← hce] at I4 bg bt bk bv
    have loc : ce.locals = s3.heap.objs.size := by rw [hce]; rfl
    have st4 : tn 0 ({ s3 with heap := pushCells (s3.heap.push { cls := .type "dict", data := .dict #[] }) scope.names } : Shared).heap := T.keep _ _ _ st3 fun b _ o e => pushCells_keeps _ _ _ _ (Heap.get?_push_of_some _ e)
    generalize ({ s3 with heap := pushCells (s3.heap.push { cls := .type "dict", data := .dict #[] }) scope.names } : Shared) = s4 at I4 st4 ⊢
    have heads : ∀ {σ' : L2.St} {H' : Hp} {s' : Shared}, Inv (X.blk s3 H3 scope ce fp) [] σ' H' s' → (∀ b ∈ fp, H' b = none) → ∀ b ∈ fp, FpOk (X.blk s3 H3 scope ce fp) [] H' b := fun J n b hb =>
      ⟨n b hb, (J.ok.exf b hb).1, J.ok.exfs b hb, Or.inl hb, fun x c => (J.ok.exf b hb).2 x c, fun p hp => by cases (show p ∈ ([] : List (Addr × Obj)) from hp)⟩
    have loop : codeAny (model X.prog X.w) X.A (.compLoop (.DictComp kx vx [⟨tg, iter, ifs, 0⟩] scope pos) 0 (.ref it) (.ref D) ce) (compPost (model X.prog X.w) X.A X.xe none (EP X pins σ Q) (.ref D) s3.heap.objs.size) s4 := by
      refine compLoop_anyD (HeadT X s3 H3 scope ce fp (own.map (·.2)) σ tn W) (fun n z hz => ?_) m0 ⟨0, H3, I4, st4, fun b hb => (f3 b hb).1.1, w0⟩
      obtain ⟨i, Hz, Iz, stz, nz, wz⟩ := hz
      rcases turn i n Hz wz with ⟨stop, fine⟩ | ⟨go, Nx, hNx, step⟩
      · refine thnF (T.done (X.blk s3 H3 scope ce fp) rfl rfl rfl hc i [] z _ Hz (fun _ _ => False) Iz (heads Iz nz) stz stop) fun r y ⟨hr, Iy⟩ => ?_
        subst hr
        have back : Inv X pins σ Hz y := I3.call' (ch := fp) Iy.os Iy.base Iy.hok Iy.bare fun b hb => by
          obtain ⟨_, c2, c3, c4, c5, c6⟩ := (f3 b hb).1
          exact ⟨c4, c2, c5, c6⟩
        obtain ⟨m, ns, _⟩ := Iy.loc
        have nl : Hz s3.heap.objs.size = none := loc ▸ Iy.free
        obtain ⟨d0, d1, d2, d3, d4, d5⟩ := I3.fpOk (H' := Hz) (Nat.le_refl _) nl
        exact ⟨m, loc ▸ ns, fun k sb => ⟨.ref D, Hz, back.turned (t' := y.toks) (fun b o hb e => (sb.2 b hb).trans e) d0 d1 d3 d4 d5, rfl, fine⟩⟩
      · refine thnF (T.item (X.blk s3 H3 scope ce fp) rfl rfl rfl hc i [] z _ Hz (fun _ _ => False) Iz (heads Iz nz) stz go) fun r y ⟨u, hr, hy⟩ => ?_
        subst hr
        refine thnF hy fun _ x ⟨w, Hx, Ix, rx, yx, stx, nx⟩ => ?_
        have Ip := Ix.pinned (heads Ix nx) (T.obj _ _ stx)
        refine thnF (bg.run _ x _ Hx w u _ Ip rx (step w Hx yx)) fun _ a ⟨σa, Ha, Ia, wa, qa⟩ => ?_
        refine thnF (bt.run _ a σa Ha _ Ia qa) fun b c ⟨Hc, Ic, qc⟩ => ?_
        have again : ∀ {e : Shared} {He : Hp}, Inv (X.blk s3 H3 scope ce fp) ([] ++ pinsAt fp x.heap) σa He e → Nx He → ∃ m, m < n ∧ HeadT X s3 H3 scope ce fp (own.map (·.2)) σ tn W m e := fun {e He} Ie ne => by
          obtain ⟨m, lt, wm⟩ := hNx He ne
          have pin : ∀ b ∈ fp, ∀ o, x.heap.get? b = some o → e.heap.get? b = some o ∧ He b = none := fun b hb o q => by
            have := Ie.pin (b, o) (List.mem_append_right _ (List.mem_append_right _ (mem_pinsAt hb q)))
            exact ⟨this.1, this.2.1⟩
          have len : (L2.wipe σ (own.map (·.2))).length = σa.length := by rw [← wa, wipe_length]
          have sub : ∀ (j : Nat) v, (L2.wipe σ (own.map (·.2)))[j]? = some (some v) → σa[j]? = some (some v) := fun j v q => by
            rw [← wa] at q
            exact (wipe_some q).1
          refine ⟨m, lt, i + 1, He, (Ie.unpinned (pins := [])).weak len sub, T.keep _ _ _ stx fun b hb o q => (pin b hb o q).1, fun b hb => ?_, wm⟩
          obtain ⟨o, q, _⟩ := T.obj _ _ stx b hb
          exact (pin b hb o q).2
        cases b with
        | false =>
          rw [if_neg (by decide)] at qc
          exact again Ic qc
        | true =>
          rw [if_pos rfl] at qc
          refine thnF (bk.run _ c σa Hc _ Ic qc) fun v1 d ⟨y1, Hd, Id, rd, qd⟩ => ?_
          refine thnF (bv.run _ d σa Hd _ Id qd) fun v2 e ⟨y2, He, Ie, re, kvs, k, a1, ey, ea, eD, lt, nxt⟩ => ?_
          subst ey
          cases rd
          exact put_tup (X := X.blk s3 H3 scope ce fp) (Nat.lt_of_le_of_lt (by show X.A.units + 1 ≤ X.A.units + 64; omega) hu) Ie eD ea lt re fun f If => again If nxt
    exact codeAny_compStart_dict loop (T.self X.A 0 _ _ _ st4 loop)
  subst hs3
  exact goal _ rfl⟩
end
section
variable {J : It} {n : Nat} {Gd : Hp → Prop} {Y : Nat → Hp → V → Hp → Prop}
theorem dcT_it (w : Walk J n Gd Y) {g : TG} {tt : TT} {tk tv : TE} {vs : List Nat} {σ : Sl} {H1 : Hp} {D : Addr} {Qd : Hp → Prop} (Pi : Nat → Hp → Prop) (h0 : Pi 0 (upd H1 D (.dT []))) (hG : ∀ i H, i ≤ n → Pi i H → Gd H)
    (hs : ∀ i x H H', i < n → Pi i H → Y i H x H' → g x (wipe σ vs) H' fun σ2 H2 => wipe σ2 vs = wipe σ vs ∧ tt σ2 H2 fun b H3 =>
      if b = true then tk σ2 H3 fun y H4 => tv σ2 H4 fun z H5 => ∃ kvs k a, y = .ref a ∧ H5 a = some (.tup (List.map kV k)) ∧ H5 D = some (.dT kvs) ∧ kvs.length < sizeLine ∧ Pi (i + 1) (upd H5 D (.dT (putK kvs k z))) else Pi (i + 1) H3) (hd : ∀ H, Pi n H → Qd H) :
    ∃ W : Nat → Nat → Hp → Prop, (∃ m, W 0 m (upd H1 D (.dT []))) ∧ ∀ i m H, W i m H →
      (J.stop i H ∧ Qd H) ∨ (J.go i H ∧ ∃ Nx : Hp → Prop, (∀ H', Nx H' → ∃ m', m' < m ∧ W (i + 1) m' H') ∧ ∀ x H', J.yld i H x H' → g x (wipe σ vs) H' fun σ2 H2 => wipe σ2 vs = wipe σ vs ∧ tt σ2 H2 fun b H3 =>
        if b = true then tk σ2 H3 fun y H4 => tv σ2 H4 fun z H5 => ∃ kvs k a, y = .ref a ∧ H5 a = some (.tup (List.map kV k)) ∧ H5 D = some (.dT kvs) ∧ kvs.length < sizeLine ∧ Nx (upd H5 D (.dT (putK kvs k z))) else Nx H3) := by
  refine ⟨fun i m H => m + i = n ∧ Pi i H, ⟨n, rfl, h0⟩, ?_⟩
  rintro i m H ⟨hm, hp⟩
  have hg := hG i H (by omega) hp
  rcases Nat.lt_or_ge i n with hlt | hge
  · exact .inr ⟨w.goes i H hlt hg, Pi (i + 1), fun H' p' => ⟨m - 1, by omega, by omega, p'⟩, fun x H' y => hs i x H H' hlt hp (w.yields i H x H' hlt hg y)⟩
  · have e : i = n := by omega
    subst e
    exact .inl ⟨w.stops H hg, hd H hp⟩
end
def dcTL (b : DG) (c : DT) (k e : DD) : List D → List (List Key × D) → Ev → Tp → Option (List (List Key × D) × Tp)
  | [], acc, _, τ => some (acc, τ)
  | x :: xs, acc, env, τ => match b x env with
    | none => none
    | some env1 => bnd (c env1 τ) fun t τ1 => if t = true then bnd (k env1 τ1) fun d τ2 => bnd (e env1 τ2) fun y τ3 => match keyT d with
        | some kk => dcTL b c k e xs (putD acc kk y) env τ3
        | none => none
      else dcTL b c k e xs acc env τ1
def dDcT (vs : List Nat) (it : DI) (b : DG) (c : DT) (k e : DD) : DE := fun env τ => bnd (it env τ) fun ds τ1 => bnd (dcTL b c k e ds [] (wipeE env vs) τ1) fun kvs τ2 => some (.dt kvs, τ2)
theorem dcT_run {vs is : List Nat} {it : DI} {b : DG} {c : DT} {k e : DD} (his : ∀ i ∈ is, i ∈ vs) : ∀ σ H Q, tV (dDcT vs it b c k e) σ H Q → tDcT (tIE it) (tG is b) (tB' c) (tD k) (tD e) vs σ H Q := fun σ H Q ⟨g, Hs, env, τ, v, τ', r, hf, q⟩ => by
  obtain ⟨ds, τ1, h1, h2⟩ := bnd_eq hf
  obtain ⟨res, τ2, h3, h4⟩ := bnd_eq h2
  cases h4
  refine ⟨g, Hs, env, τ, ds, τ1, r, h1, fun J Hs1 H1 u1 hlen wk A hA => ?_⟩
  obtain ⟨Gd, Y, w, wG, wY⟩ := wk
  have nT := u1.neT hA
  have hA1 := u1.freeS hA
  have r1 := (r.up u1).wipe vs
  have uz : Up g Hs1 H1 Hs1 H1 τ1 := .refl u1.le u1.tp
  have stay : ∀ {Hs2 H2 Hs3 H3 : Hp} {τ3 : Tp} {o : HO}, Up g Hs2 H2 Hs3 H3 τ3 → H2 A = some o → Hs2 A = none → nt o = true → H3 A = some o ∧ Hs3 A = none := fun {Hs2 H2 Hs3 H3 τ3 o} u h hn nto => ⟨u.h _ _ h nT nto, by
    cases z : Hs3 A with
    | none => rfl
    | some o => rw [u.f A o z hn] at h; cases h⟩
  refine dcT_it w (fun i H' => ∃ Hs' kv acc τi, Up g Hs1 H1 Hs' H' τi ∧ H' A = some (.dT kv) ∧ Hs' A = none ∧ Kps Hs' kv acc ∧ acc.length ≤ i ∧ dcTL b c k e (ds.drop i) acc (wipeE env vs) τi = some (res, τ'))
    ⟨Hs1, [], [], τ1, uz.mk1 hA, upd_same, hA1, .nil, Nat.le_refl _, by rw [List.drop_zero]; exact h3⟩ (fun i H' _ ⟨Hs', kv, acc, τi, u2, _⟩ => wG Hs' H' τi u2) (fun i x H2 H3 hi ⟨Hs2, kv, acc, τi, u2, hacc, hA2, hr, hl, hc⟩ hy => ?_) fun H' ⟨Hs2, kv, acc, τi, u2, hacc, hA2, hr, hl, hc⟩ => ?_
  · have hd : ds[i]? = some (ds[i]'hi) := List.getElem?_eq_getElem hi
    generalize ds[i]'hi = d at hd
    obtain ⟨Hs3, u3, rx⟩ := wY Hs2 H2 τi i x H3 d u2 hy hd
    obtain ⟨hacc3, hA3⟩ := stay u3 hacc hA2 rfl
    rw [List.drop_eq_getElem_cons hi, show ds[i] = d from Option.some.inj ((List.getElem?_eq_getElem hi).symm.trans hd)] at hc
    have hc' : (match b d (wipeE env vs) with
      | none => none
      | some env1 => bnd (c env1 τi) fun t τ1 => if t = true then bnd (k env1 τ1) fun d τ2 => bnd (e env1 τ2) fun y τ3 => match keyT d with
          | some kk => dcTL b c k e (ds.drop (i + 1)) (putD acc kk y) (wipeE env vs) τ3
          | none => none
        else dcTL b c k e (ds.drop (i + 1)) acc (wipeE env vs) τ1) = some (res, τ') := hc
    cases hb : b d (wipeE env vs) with
    | none => rw [hb] at hc'; cases hc'
    | some env1 =>
      rw [hb] at hc'
      obtain ⟨t, τ4, h5, h6⟩ := bnd_eq hc'
      have r3 : Rel g Hs3 H3 (wipe σ vs) (wipeE env vs) τi := (r1.up u2).up u3
      refine ⟨g, Hs3, wipeE env vs, τi, d, env1, r3, rx, hb, fun σ2 r4 tt => ⟨?_, g, Hs3, env1, τi, t, τ4, r4, h5, fun Hs4 H4 u4 => ?_⟩⟩
      · rw [tt.wipe his, wipe_wipe]
      · obtain ⟨hacc4, hA4⟩ := stay u4 hacc3 hA3 rfl
        cases t with
        | false =>
          have h6 : dcTL b c k e (ds.drop (i + 1)) acc (wipeE env vs) τ4 = some (res, τ') := h6
          exact iteF ⟨Hs4, kv, acc, τ4, (u2.trans u3).trans u4, hacc4, hA4, (hr.to u3.s).to u4.s, Nat.le_succ_of_le hl, h6⟩
        | true =>
          obtain ⟨dk, τ5, h7, h8⟩ := bnd_eq h6
          obtain ⟨y, τ6, h9, h10⟩ := bnd_eq h8
          split at h10
          · rename_i kk hkk
            refine iteT ⟨g, Hs4, env1, τ4, dk, τ5, r4.up u4, h7, fun wk Hs5 H5 u5 rk => ⟨g, Hs5, env1, τ5, y, τ6, (r4.up u4).up u5, h9, fun wy Hs6 H6 u6 ry => ?_⟩⟩
            obtain ⟨hacc5, hA5⟩ := stay u5 hacc4 hA4 rfl
            obtain ⟨hacc6, hA6⟩ := stay u6 hacc5 hA5 rfl
            have ut := (((u2.trans u3).trans u4).trans u5).trans u6
            have hk := hr.len
            have hle := putD_le acc kk y
            obtain ⟨ba, eb, hb⟩ := keyT_v hkk rk
            refine ⟨kv, kk, ba, eb, u6.le _ _ (u6.s _ _ hb), hacc6, by omega, Hs6, _, putD acc kk y, τ6, ut.put hA hA6 nT hacc6 rfl, upd_same, hA6, ((((hr.to u3.s).to u4.s).to u5.s).to u6.s).put kk ry, by omega, h10⟩
          · cases h10
  · rw [List.drop_length] at hc
    cases hc
    exact q _ Hs2 H' (u1.trans u2) ⟨A, kv, rfl, nT, hA2, hacc, hr⟩ fun _ p ep => by cases ep; exact u1.old hA
section
variable {X : Cx} {pos : Pos} {kx vx tg iter : Expr} {ifs : List Expr} {scope : Scope} {own : List (Str × Nat)} {is : List Nat} {it : DI} {b : DG} {c : DT} {k e : DD}
theorem jdcT (hu : X.A.units + 64 < cLine) (hN : X.N.Nodup) (hi : JC X tg iter it) (ok : BlkOk X.N X.env.scope scope own)
    (hg : ∀ (s : Shared) (H : Hp) (C : Addr) (cl : List (Str × Addr)) (fp : List Addr), JG (X.blk s H scope (compEnvC scope cl C X.env) fp) tg is b)
    (ht : ∀ (s : Shared) (H : Hp) (C : Addr) (cl : List (Str × Addr)) (fp : List Addr), JTs (X.blk s H scope (compEnvC scope cl C X.env) fp) ifs c)
    (hk : ∀ (s : Shared) (H : Hp) (C : Addr) (cl : List (Str × Addr)) (fp : List Addr), JD (X.blk s H scope (compEnvC scope cl C X.env) fp) kx k)
    (he : ∀ (s : Shared) (H : Hp) (C : Addr) (cl : List (Str × Addr)) (fp : List Addr), JD (X.blk s H scope (compEnvC scope cl C X.env) fp) vx e)
    (his : ∀ i ∈ is, i ∈ own.map (·.2) := by decide) (hc : X.calm = true := by rfl) (hs : ∀ x, foldedSetIterable iter X.env x = pure x := by intro _; rfl) : JV X (.DictComp kx vx [⟨tg, iter, ifs, 0⟩] scope pos) (dDcT (own.map (·.2)) it b c k e) :=
  PEi (pe_dcT hc hu hN hi ok hg ht hk he hs) (dcT_run his)
end
end Pv
namespace PySem
open Sem (wp)
section
variable {prog : Program} {w : World} {A : Around} {E : Value → Shared → Prop} {s : Shared} {z TI TO i1 i2 : Addr} {fp1 fp2 : List Addr} {n1 n2 i : Nat} {P1 P2 : Nat → Value → Prop} {St1 St2 : Nat → Heap → Prop} {a1 a2 x0 : Value} {f : Bool}
/-- a zip, whatever it knows of its last pair -/
abbrev IsZipX (h : Heap) (z TI TO : Addr) (x0 : Value) (f : Bool) : Prop :=
  h.get? z = some { cls := .type "zip", dict := none, data := .fields #[x0, .bool f, .bool false, .ref TI, .ref TO], slots := #[] }
def Lst0 (x0 : Value) : Prop := x0 = .none ∨ ∃ T : Nat, x0 = rawInt T
theorem alive_any {a : Addr} {Q : Option Obj → Shared → Prop} (h : Q (s.heap.get? a) s) : wpAny (model prog w) A (loadIfAlive a) Q E s := fun _ _ _ => h
theorem free_x {Q : Bool → Shared → Prop} (hz : IsZipX s.heap z TI TO x0 f) (hx : Lst0 x0) (h1 : Q true s)
    (h2 : ∀ h', IsZipX h' z TI TO x0 true → Heap.SameBut z s.heap h' → Q false { s with heap := h' }) : wpAny (model prog w) A (Builtin.SmallTypes.ownedTupleIsFree (.ref z)) Q E s := by
  unfold Builtin.SmallTypes.ownedTupleIsFree
  refine wpAny_bind (wpAny_field hz rfl (x := x0) rfl ?_)
  rcases hx with rfl | ⟨T, rfl⟩
  · exact wpAny_pure h1
  · show wpAny _ _ (loadIfAlive ((T : Int).toNat) >>= _) _ _ _
    rw [Int.toNat_natCast]
    refine wpAny_bind (alive_any ?_)
    cases hT : s.heap.get? T with
    | none =>
      simp only [Option.isNone_none, if_true]
      exact wpAny_pure h1
    | some o =>
      simp only [Option.isNone_some, Bool.false_eq_true, if_false]
      refine wpAny_bind (wpAny_field hz rfl (x := .bool f) rfl ?_)
      cases f with
      | true =>
        rw [if_neg (show ¬ ((Value.bool true != Value.bool true) = true) from Bool.false_ne_true)]
        exact wpAny_pure (h2 s.heap hz (Heap.SameBut.refl _ _))
      | false =>
        rw [if_pos (show (Value.bool false != Value.bool true) = true from rfl)]
        exact wpAny_bind (wpAny_setField_rec hz (by simp) fun h₁ hz₁ hs₁ => wpAny_pure (h2 h₁ hz₁ hs₁))
theorem zipX_next_item {Q : Value → Shared → Prop} (S : ZipSep2 z TI TO i1 i2 fp1 fp2) (D1 : Draws prog w A i1 fp1 n1 P1 St1) (D2 : Draws prog w A i2 fp2 n2 P2 St2)
    (hz : IsZipX s.heap z TI TO x0 f) (hx : Lst0 x0) (hTI : IsTupOf2 s.heap TI (.ref i1) (.ref i2)) (hTO : IsTupOf2 s.heap TO a1 a2) (st1 : St1 i s.heap) (st2 : St2 i s.heap) (hlt1 : i < n1) (hlt2 : i < n2)
    (hQ : ∀ x1 x2 h' tk, P1 i x1 → P2 i x2 → (∃ y f', IsZipX h' z TI TO y f' ∧ Lst0 y) → (∃ a1 a2, IsTupOf2 h' TO a1 a2) → St1 (i + 1) h' → St2 (i + 1) h' → IsTupOf2 h' s.heap.objs.size x1 x2 → h'.objs.size = s.heap.objs.size + 1 →
      (∀ c o, c ≠ z → c ≠ TO → c ≠ i1 → c ≠ i2 → s.heap.get? c = some o → h'.get? c = some o) → Q (.ref s.heap.objs.size) { s with heap := h', toks := tk }) :
    wpAny (model prog w) A (Builtin.«zip.__next__» ⟨[.ref z], []⟩) (fun fin s' => ∃ v, fin = .done (.ret v) ∧ Q v s') E s := by
  obtain ⟨hp, g, d, tk0, os⟩ := s
  show wpAny _ _ (field (.ref z) 2 >>= _) _ _ _
  refine wpAny_bind (wpAny_field hz rfl (x := .bool false) rfl ?_)
  show wpAny _ _ (field (.ref z) 3 >>= _) _ _ _
  refine wpAny_bind (wpAny_field hz rfl (x := .ref TI) rfl ?_)
  refine wpAny_bind (wpAny_seqItems hTI rfl ?_)
  show wpAny _ _ (Builtin.SmallTypes.ownedTupleIsFree (.ref z) >>= _) _ _ _
  refine wpAny_bind (free_x hz hx ?_ fun h₁ hz₁ hs₁ => ?_)
  · simp only [if_true]
    refine wpAny_bind (wpAny_rule ?_)
    refine wpAny_bind (wpAny_field hz rfl (x := .ref TO) rfl ?_)
    refine wpAny_bind (wpAny_setField_rec hz (by simp) fun g0 hz0 hs0 => ?_)
    replace hz0 : IsZipX g0 z TI TO .ellipsis f := hz0
    replace hs0 : Heap.SameBut z hp g0 := hs0
    refine wpAny_bind ?_
    simp only [List.zipIdx_cons, List.zipIdx_nil, List.forIn_cons, List.forIn_nil]
    refine wpAny_bind (wpAny_bind (wpAny_onRaise ?_))
    show wpAny _ _ (Builtin.SmallTypes.nextOf (.ref i1) >>= _) _ _ ⟨g0, g, d, tk0, os⟩
    refine wpAny_bind (D1.item i _ _ _ hlt1 (D1.over st1 hs0 S.zf1) fun x1 p1 tk1 hx1 sn1 hp1 => wpAny_pure ?_)
    replace hp1 : Heap.SameBut i1 g0 p1 := hp1
    have hU1 : IsTupOf2 p1 TO a1 a2 := hp1.extBut _ _ S.Ti1 (hs0.extBut _ _ S.TOz hTO)
    refine wpAny_bind (wpAny_seqItems (s := ⟨p1, g, d, tk1, os⟩) hU1 rfl ?_)
    refine wpAny_bind (updateSeq_IsTupOf2 (s := ⟨p1, g, d, tk1, os⟩) hU1 fun g1 hT1 hs1 => ?_)
    replace hT1 : IsTupOf2 g1 TO x1 a2 := hT1
    replace hs1 : Heap.SameBut TO p1 g1 := hs1
    refine wpAny_bind (wpAny_letGo (wpAny_pure ?_))
    refine wpAny_bind (wpAny_bind (wpAny_onRaise ?_))
    show wpAny _ _ (Builtin.SmallTypes.nextOf (.ref i2) >>= _) _ _ ⟨g1, g, d, tk1, os⟩
    refine wpAny_bind (D2.item i _ _ _ hlt2 (D2.over (D2.over (D2.over st2 hs0 S.zf2) hp1 S.sep1_2) hs1 S.Tf2) fun x2 p2 tk2 hx2 sn2 hp2 => wpAny_pure ?_)
    replace hp2 : Heap.SameBut i2 g1 p2 := hp2
    have hU2 : IsTupOf2 p2 TO x1 a2 := hp2.extBut _ _ S.Ti2 hT1
    refine wpAny_bind (wpAny_seqItems (s := ⟨p2, g, d, tk2, os⟩) hU2 rfl ?_)
    refine wpAny_bind (updateSeq_IsTupOf2 (s := ⟨p2, g, d, tk2, os⟩) hU2 fun g2 hT2 hs2 => ?_)
    replace hT2 : IsTupOf2 g2 TO x1 x2 := hT2
    replace hs2 : Heap.SameBut TO p2 g2 := hs2
    refine wpAny_bind (wpAny_letGo (wpAny_pure (wpAny_pure ?_)))
    refine wpAny_bind (wpAny_seqItems (s := ⟨g2, g, d, tk2, os⟩) hT2 rfl ?_)
    refine wpAny_bind (wpAny_newTuple ?_)
    have hsz : g2.objs.size = hp.objs.size := by rw [hs2.1, hp2.1, hs1.1, hp1.1, hs0.1]
    have hzz : IsZipX g2 z TI TO .ellipsis f := (hs2.extBut _ _ S.TOz.symm (hp2.extBut _ _ S.zi2 (hs1.extBut _ _ S.TOz.symm (hp1.extBut _ _ S.zi1 hz0))))
    have hkk : ∀ c o, c ≠ z → c ≠ TO → c ≠ i1 → c ≠ i2 → hp.get? c = some o → g2.get? c = some o := fun c o cz cT c1 c2 e =>
      (hs2.extBut _ _ cT (hp2.extBut _ _ c2 (hs1.extBut _ _ cT (hp1.extBut _ _ c1 (hs0.extBut _ _ cz e)))))
    have hj1 : St1 (i + 1) g2 := (D1.over (D1.over (D1.over sn1 hs1 S.Tf1) hp2 S.sep2_1) hs2 S.Tf1)
    have hj2 : St2 (i + 1) g2 := (D2.over sn2 hs2 S.Tf2)
    have hzlt : z < g2.objs.size := Heap.lt_size hzz
    show wpAny _ _ (Builtin.SmallTypes.ownedTupleHandOut (.ref z) (.ref g2.objs.size) >>= _) _ _ ⟨g2.push { cls := .type "tuple", data := .seq #[x1, x2] }, g, d, tk2, os⟩
    refine wpAny_bind ?_
    unfold Builtin.SmallTypes.ownedTupleHandOut
    have hz₆ : IsZipX (g2.push { cls := .type "tuple", data := .seq #[x1, x2] }) z TI TO .ellipsis f := Heap.get?_push_of_some _ hzz
    refine wpAny_bind (wpAny_setField_rec hz₆ (by simp) fun h₇ hz₇ hs₇ => ?_)
    replace hz₇ : IsZipX h₇ z TI TO (rawInt g2.objs.size) f := hz₇
    refine wpAny_setField_rec hz₇ (by simp) fun h₈ hz₈ hs₈ => ?_
    replace hz₈ : IsZipX h₈ z TI TO (rawInt g2.objs.size) false := hz₈
    replace hs₇ : Heap.SameBut z (g2.push { cls := .type "tuple", data := .seq #[x1, x2] }) h₇ := hs₇
    replace hs₈ : Heap.SameBut z h₇ h₈ := hs₈
    have up : ∀ c o, c ≠ z → g2.get? c = some o → h₈.get? c = some o := fun c o c1 e => hs₈.extBut _ _ c1 (hs₇.extBut _ _ c1 (Heap.get?_push_of_some _ e))
    have hT₈ : IsTupOf2 h₈ g2.objs.size x1 x2 := hs₈.extBut _ _ (Nat.ne_of_gt hzlt) (hs₇.extBut _ _ (Nat.ne_of_gt hzlt) (Heap.get?_push_size _ rfl))
    have hz8 : h₈.objs.size = g2.objs.size + 1 := by rw [hs₈.1, hs₇.1, Heap.size_push]
    rw [hsz] at hz₈ hT₈ hz8
    refine wpAny_pure ⟨_, rfl, ?_⟩
    show Q (.ref g2.objs.size) ⟨h₈, g, d, tk2, os⟩
    rw [hsz]
    exact hQ x1 x2 h₈ tk2 hx1 hx2 ⟨_, _, hz₈, .inr ⟨_, rfl⟩⟩ ⟨_, _, up _ _ S.TOz hT2⟩ (D1.frame _ _ _ hj1 fun b hb o e => up b o (fun q => S.zf1 (q ▸ hb)) e) (D2.frame _ _ _ hj2 fun b hb o e => up b o (fun q => S.zf2 (q ▸ hb)) e) hT₈ hz8 fun c o cz cT c1 c2 e => up c o cz (hkk c o cz cT c1 c2 e)
  · simp only [Bool.false_eq_true, if_false]
    replace hs₁ : Heap.SameBut z hp h₁ := hs₁
    refine wpAny_bind ?_
    rw [← Array.forIn_toList]
    simp only [List.forIn_cons, List.forIn_nil]
    refine wpAny_bind (wpAny_bind (wpAny_holding ?_))
    show wpAny _ _ (Builtin.SmallTypes.nextOf (.ref i1) >>= _) _ _ ⟨h₁, g, d, tk0, os⟩
    refine wpAny_bind (D1.item i _ _ _ hlt1 (D1.over st1 hs₁ S.zf1) fun x1 p1 tk1 hx1 sn1 hp1 => wpAny_pure ?_)
    replace hp1 : Heap.SameBut i1 h₁ p1 := hp1
    refine wpAny_pure ?_
    refine wpAny_bind (wpAny_bind (wpAny_holding ?_))
    show wpAny _ _ (Builtin.SmallTypes.nextOf (.ref i2) >>= _) _ _ ⟨p1, g, d, tk1, os⟩
    refine wpAny_bind (D2.item i _ _ _ hlt2 (D2.over (D2.over st2 hs₁ S.zf2) hp1 S.sep1_2) fun x2 p2 tk2 hx2 sn2 hp2 => wpAny_pure ?_)
    replace hp2 : Heap.SameBut i2 p1 p2 := hp2
    refine wpAny_pure (wpAny_pure ?_)
    show wpAny _ _ (newTuple [x1, x2] >>= _) _ _ _
    refine wpAny_bind (wpAny_newTuple ?_)
    have hsz : p2.objs.size = hp.objs.size := by rw [hp2.1, hp1.1, hs₁.1]
    have hzz : IsZipX p2 z TI TO x0 true := hp2.extBut _ _ S.zi2 (hp1.extBut _ _ S.zi1 hz₁)
    have hkk : ∀ c o, c ≠ z → c ≠ i1 → c ≠ i2 → hp.get? c = some o → p2.get? c = some o := fun c o cz c1 c2 e => hp2.extBut _ _ c2 (hp1.extBut _ _ c1 (hs₁.extBut _ _ cz e))
    have up : ∀ c o, p2.get? c = some o → (p2.push { cls := .type "tuple", data := .seq #[x1, x2] }).get? c = some o := fun c o e => Heap.get?_push_of_some _ e
    have hj1 : St1 (i + 1) p2 := D1.over sn1 hp2 S.sep2_1
    refine wpAny_pure ⟨_, rfl, ?_⟩
    show Q (.ref p2.objs.size) _
    have hT : IsTupOf2 (p2.push { cls := .type "tuple", data := .seq #[x1, x2] }) p2.objs.size x1 x2 := Heap.get?_push_size _ rfl
    have hz8 : (p2.push { cls := .type "tuple", data := .seq #[x1, x2] }).objs.size = p2.objs.size + 1 := Heap.size_push ..
    rw [hsz] at hT hz8 ⊢
    exact hQ x1 x2 _ tk2 hx1 hx2 ⟨_, _, up _ _ hzz, hx⟩ ⟨_, _, up _ _ (hkk _ _ S.TOz S.Ti1 S.Ti2 hTO)⟩ (D1.frame _ _ _ hj1 fun b hb o e => up b o e) (D2.frame _ _ _ sn2 fun b hb o e => up b o e) hT hz8 fun c o cz _ c1 c2 e => up c o (hkk c o cz c1 c2 e)
theorem zipX_next_end {Q : Fin → Shared → Prop} (S : ZipSep2 z TI TO i1 i2 fp1 fp2) (D1 : Draws prog w A i1 fp1 n1 P1 St1) (D2 : Draws prog w A i2 fp2 n2 P2 St2)
    (hz : IsZipX s.heap z TI TO x0 f) (hx : Lst0 x0) (hTI : IsTupOf2 s.heap TI (.ref i1) (.ref i2)) (hTO : IsTupOf2 s.heap TO a1 a2) (st1 : St1 i s.heap) (st2 : St2 i s.heap) (hle1 : i ≤ n1) (hle2 : i ≤ n2) (hend : i = n1 ∨ i = n2)
    (hE : ∀ h' tk e, (∀ c o, c ≠ z → c ≠ TO → c ≠ i1 → c ≠ i2 → s.heap.get? c = some o → h'.get? c = some o) → (∃ o, h'.get? e = some o ∧ o.cls = .type "StopIteration") → E (.ref e) { s with heap := h', toks := tk }) :
    wpAny (model prog w) A (Builtin.«zip.__next__» ⟨[.ref z], []⟩) Q E s := by
  obtain ⟨hp, g, d, tk0, os⟩ := s
  show wpAny _ _ (field (.ref z) 2 >>= _) _ _ _
  refine wpAny_bind (wpAny_field hz rfl (x := .bool false) rfl ?_)
  show wpAny _ _ (field (.ref z) 3 >>= _) _ _ _
  refine wpAny_bind (wpAny_field hz rfl (x := .ref TI) rfl ?_)
  refine wpAny_bind (wpAny_seqItems hTI rfl ?_)
  show wpAny _ _ (Builtin.SmallTypes.ownedTupleIsFree (.ref z) >>= _) _ _ _
  refine wpAny_bind (free_x hz hx ?_ fun h₁ hz₁ hs₁ => ?_)
  · simp only [if_true]
    refine wpAny_bind (wpAny_rule ?_)
    refine wpAny_bind (wpAny_field hz rfl (x := .ref TO) rfl ?_)
    refine wpAny_bind (wpAny_setField_rec hz (by simp) fun g0 hz0 hs0 => ?_)
    replace hz0 : IsZipX g0 z TI TO .ellipsis f := hz0
    replace hs0 : Heap.SameBut z hp g0 := hs0
    refine wpAny_bind ?_
    simp only [List.zipIdx_cons, List.zipIdx_nil, List.forIn_cons, List.forIn_nil]
    refine wpAny_bind (wpAny_bind (wpAny_onRaise ?_))
    show wpAny _ _ (Builtin.SmallTypes.nextOf (.ref i1) >>= _) _ _ ⟨g0, g, d, tk0, os⟩
    by_cases hlt1 : i < n1
    · refine wpAny_bind (D1.item i _ _ _ hlt1 (D1.over st1 hs0 S.zf1) fun x1 p1 tk1 hx1 sn1 hp1 => wpAny_pure ?_)
      replace hp1 : Heap.SameBut i1 g0 p1 := hp1
      have hU1 : IsTupOf2 p1 TO a1 a2 := hp1.extBut _ _ S.Ti1 (hs0.extBut _ _ S.TOz hTO)
      refine wpAny_bind (wpAny_seqItems (s := ⟨p1, g, d, tk1, os⟩) hU1 rfl ?_)
      refine wpAny_bind (updateSeq_IsTupOf2 (s := ⟨p1, g, d, tk1, os⟩) hU1 fun g1 hT1 hs1 => ?_)
      replace hT1 : IsTupOf2 g1 TO x1 a2 := hT1
      replace hs1 : Heap.SameBut TO p1 g1 := hs1
      refine wpAny_bind (wpAny_letGo (wpAny_pure ?_))
      have hi2 : i = n2 := by omega
      refine wpAny_bind (wpAny_bind (wpAny_onRaise ?_))
      show wpAny _ _ (Builtin.SmallTypes.nextOf (.ref i2) >>= _) _ _ ⟨g1, g, d, tk1, os⟩
      refine wpAny_bind (D2.done ⟨g1, g, d, tk1, os⟩ _ _ (by rw [← hi2]; exact (D2.over (D2.over (D2.over st2 hs0 S.zf2) hp1 S.sep1_2) hs1 S.Tf2)) fun q e hq he => ?_)
      replace hq : Heap.ExtBut i2 g1 q := hq
      obtain ⟨oe, hoe, hce⟩ := he
      replace hoe : q.get? e = some oe := hoe
      have hzq : IsZipX q z TI TO .ellipsis f := hq _ _ S.zi2 (hs1.extBut _ _ S.TOz.symm (hp1.extBut _ _ S.zi1 hz0))
      have hez : e ≠ z := fun x => by subst x; rw [hzq] at hoe; cases hoe; simp at hce
      refine wpAny_setField_rec (s := ⟨q, g, d, tk1, os⟩) hzq (by simp) fun q' _ hq' => ?_
      replace hq' : Heap.SameBut z q q' := hq'
      exact hE q' tk1 e (fun c o cz cT c1 c2 x => hq'.extBut _ _ cz (hq _ _ c2 (hs1.extBut _ _ cT (hp1.extBut _ _ c1 (hs0.extBut _ _ cz x))))) ⟨oe, hq'.extBut _ _ hez hoe, hce⟩
    · have hi1 : i = n1 := by omega
      refine wpAny_bind (D1.done ⟨g0, g, d, tk0, os⟩ _ _ (by rw [← hi1]; exact (D1.over st1 hs0 S.zf1)) fun q e hq he => ?_)
      replace hq : Heap.ExtBut i1 g0 q := hq
      obtain ⟨oe, hoe, hce⟩ := he
      replace hoe : q.get? e = some oe := hoe
      have hzq : IsZipX q z TI TO .ellipsis f := hq _ _ S.zi1 hz0
      have hez : e ≠ z := fun x => by subst x; rw [hzq] at hoe; cases hoe; simp at hce
      refine wpAny_setField_rec (s := ⟨q, g, d, tk0, os⟩) hzq (by simp) fun q' _ hq' => ?_
      replace hq' : Heap.SameBut z q q' := hq'
      exact hE q' tk0 e (fun c o cz cT c1 c2 x => hq'.extBut _ _ cz (hq _ _ c1 (hs0.extBut _ _ cz x))) ⟨oe, hq'.extBut _ _ hez hoe, hce⟩
  · simp only [Bool.false_eq_true, if_false]
    replace hs₁ : Heap.SameBut z hp h₁ := hs₁
    refine wpAny_bind ?_
    rw [← Array.forIn_toList]
    simp only [List.forIn_cons, List.forIn_nil]
    refine wpAny_bind (wpAny_bind (wpAny_holding ?_))
    show wpAny _ _ (Builtin.SmallTypes.nextOf (.ref i1) >>= _) _ _ ⟨h₁, g, d, tk0, os⟩
    by_cases hlt1 : i < n1
    · refine wpAny_bind (D1.item i _ _ _ hlt1 (D1.over st1 hs₁ S.zf1) fun x1 p1 tk1 hx1 sn1 hp1 => wpAny_pure ?_)
      replace hp1 : Heap.SameBut i1 h₁ p1 := hp1
      refine wpAny_pure ?_
      have hi2 : i = n2 := by omega
      refine wpAny_bind (wpAny_bind (wpAny_holding ?_))
      show wpAny _ _ (Builtin.SmallTypes.nextOf (.ref i2) >>= _) _ _ ⟨p1, g, d, tk1, os⟩
      refine wpAny_bind (D2.done ⟨p1, g, d, tk1, os⟩ _ _ (by rw [← hi2]; exact (D2.over (D2.over st2 hs₁ S.zf2) hp1 S.sep1_2)) fun q e hq he => ?_)
      replace hq : Heap.ExtBut i2 p1 q := hq
      obtain ⟨oe, hoe, hce⟩ := he
      replace hoe : q.get? e = some oe := hoe
      exact hE q tk1 e (fun c o cz cT c1 c2 x => hq _ _ c2 (hp1.extBut _ _ c1 (hs₁.extBut _ _ cz x))) ⟨oe, hoe, hce⟩
    · have hi1 : i = n1 := by omega
      refine wpAny_bind (D1.done ⟨h₁, g, d, tk0, os⟩ _ _ (by rw [← hi1]; exact (D1.over st1 hs₁ S.zf1)) fun q e hq he => ?_)
      replace hq : Heap.ExtBut i1 h₁ q := hq
      obtain ⟨oe, hoe, hce⟩ := he
      replace hoe : q.get? e = some oe := hoe
      exact hE q tk0 e (fun c o cz cT c1 c2 x => hq _ _ c1 (hs₁.extBut _ _ cz x)) ⟨oe, hoe, hce⟩
theorem wpAny_pyNext_zipX_item {Q : Option Value → Shared → Prop} (S : ZipSep2 z TI TO i1 i2 fp1 fp2) (D1 : Draws prog w A.in1 i1 fp1 n1 P1 St1) (D2 : Draws prog w A.in1 i2 fp2 n2 P2 St2)
    (hz : IsZipX s.heap z TI TO x0 f) (hx : Lst0 x0) (hTI : IsTupOf2 s.heap TI (.ref i1) (.ref i2)) (hTO : IsTupOf2 s.heap TO a1 a2) (st1 : St1 i s.heap) (st2 : St2 i s.heap) (hlt1 : i < n1) (hlt2 : i < n2)
    (hQ : ∀ x1 x2 h' tk, P1 i x1 → P2 i x2 → (∃ y f', IsZipX h' z TI TO y f' ∧ Lst0 y) → (∃ a1 a2, IsTupOf2 h' TO a1 a2) → St1 (i + 1) h' → St2 (i + 1) h' → IsTupOf2 h' s.heap.objs.size x1 x2 → h'.objs.size = s.heap.objs.size + 1 →
      (∀ c o, c ≠ z → c ≠ TO → c ≠ i1 → c ≠ i2 → s.heap.get? c = some o → h'.get? c = some o) → Q (some (.ref s.heap.objs.size)) { s with heap := h', toks := tk }) :
    wpAny (model prog w) A (pyNext (.ref z)) Q E s := by
  have hT : s.TypeIs (.ref z) "zip" := ⟨_, hz, rfl⟩
  unfold pyNext
  exact wpAny_bind (wpAny_attempt (wpAny_callSpecial?_slot (name := Str.ofString "__next__") hT F.slot_zip_next
    (wpAny_call_entry F.slot_zip_next hT F.entry_zip_next
      (zipX_next_item S D1 D2 hz hx hTI hTO st1 st2 hlt1 hlt2 fun x1 x2 h' tk y1 y2 b1 b2 d1 d2 b5 b6 b7 => wpAny_pure (hQ x1 x2 h' tk y1 y2 b1 b2 d1 d2 b5 b6 b7)) (F.args_zip_next_1 _))))
theorem wpAny_pyNext_zipX_end {Q : Option Value → Shared → Prop} (S : ZipSep2 z TI TO i1 i2 fp1 fp2) (D1 : Draws prog w A.in1 i1 fp1 n1 P1 St1) (D2 : Draws prog w A.in1 i2 fp2 n2 P2 St2)
    (hz : IsZipX s.heap z TI TO x0 f) (hx : Lst0 x0) (hTI : IsTupOf2 s.heap TI (.ref i1) (.ref i2)) (hTO : IsTupOf2 s.heap TO a1 a2) (st1 : St1 i s.heap) (st2 : St2 i s.heap) (hle1 : i ≤ n1) (hle2 : i ≤ n2) (hend : i = n1 ∨ i = n2)
    (hQ : ∀ h' tk, (∀ c o, c ≠ z → c ≠ TO → c ≠ i1 → c ≠ i2 → s.heap.get? c = some o → h'.get? c = some o) → Q none { s with heap := h', toks := tk }) : wpAny (model prog w) A (pyNext (.ref z)) Q E s := by
  have hT : s.TypeIs (.ref z) "zip" := ⟨_, hz, rfl⟩
  unfold pyNext
  refine wpAny_bind (wpAny_attempt (wpAny_callSpecial?_slot (name := Str.ofString "__next__") hT F.slot_zip_next
    (wpAny_call_entry F.slot_zip_next hT F.entry_zip_next (zipX_next_end S D1 D2 hz hx hTI hTO st1 st2 hle1 hle2 hend fun h' tk e hk he => ?_) (F.args_zip_next_1 _))))
  obtain ⟨o, ho, hc⟩ := he
  refine wpAny_bind (wpAny_isInstance (T := "StopIteration") (b := true) ⟨o, ho, hc⟩ isSubtype_stop ?_)
  exact wpAny_pure (hQ _ _ hk)
end
end PySem
namespace Pv
open PySem L2 PySem.Spec PyProof.Rows
variable [Tbl]
theorem pyIter_zipX {prog : Program} {w : World} {A : Around} {E : Value → Shared → Prop} {s : Shared} {z TI TO : Addr} {x0 : Value} {f : Bool} {Q : Value → Shared → Prop} (hz : IsZipX s.heap z TI TO x0 f) (h : Q (.ref z) s) : wpAny (model prog w) A (pyIter (.ref z)) Q E s := by
  have hT : s.TypeIs (.ref z) "zip" := ⟨_, hz, rfl⟩
  refine wpAny_pyIter_slot hT F.slot_zip_iter (wpAny_call_entry F.slot_zip_iter hT F.entry_zip_iter ?_ (F.args_zip_iter_1 _))
  show wpAny _ _ (ret (.ref z)) _ _ s
  exact wpAny_pure ⟨_, rfl, "zip", _, hT, F.slot_zip_next.lookup, h⟩
theorem turn_zipN {P : Program} {w : World} {K : PySem.W.Frag} {nm : Str} {tpos : Pos} {ba bb : Bool} {a b z TI TO i1 i2 : Addr} (S : ZipSep2 z TI TO i1 i2 [i1, a] [i2, b]) (n1 : a ≠ i1) (n2 : b ≠ i2) :
    Turn P w K (.Name nm tpos) (ItzB K ba bb a b) [z, TI, TO, i1, i2] z (fun i h => (∃ y f, IsZipX h z TI TO y f ∧ Lst0 y) ∧ IsTupOf2 h TI (.ref i1) (.ref i2) ∧ (∃ x y, IsTupOf2 h TO x y) ∧ ItB ba h i1 a i ∧ ItB bb h i2 b i) where
  mem := by simp
  obj := fun i h st c hc => by
    obtain ⟨⟨zy, zf, hz, hzx⟩, hTI, ⟨x, y, hTO⟩, h1, h2⟩ := st
    have e' : c = z ∨ c = TI ∨ c = TO ∨ c = i1 ∨ c = i2 := by simpa using hc
    rcases e' with rfl | rfl | rfl | rfl | rfl
    · exact ⟨_, hz, fun v q => nomatch q⟩
    · exact ⟨_, hTI, fun v q => nomatch q⟩
    · exact ⟨_, hTO, fun v q => nomatch q⟩
    · exact h1.obj
    · exact h2.obj
  keep := fun i h h' st k => by
    obtain ⟨⟨zy, zf, hz, hzx⟩, hTI, ⟨x, y, hTO⟩, h1, h2⟩ := st
    exact ⟨⟨zy, zf, k z (by simp) _ hz, hzx⟩, k TI (by simp) _ hTI, ⟨x, y, k TO (by simp) _ hTO⟩, h1.at fun o q => k i1 (by simp) o q, h2.at fun o q => k i2 (by simp) o q⟩
  item := by
    intro X hP hw hK hc i pins s σ H E I hf st hg
    subst hP hw hK
    obtain ⟨⟨zy, zf, hz, hzx⟩, hTI, ⟨x0, y0, hTO⟩, h1, h2⟩ := st
    obtain ⟨xs, ys, x, y, hqx, hqy, hx, hy⟩ := hg
    obtain ⟨its, rv, p, la⟩ := hqx.arr I
    obtain ⟨its2, rv2, p2, lb⟩ := hqy.arr I
    obtain ⟨u, hu, ru⟩ := rv.get hx
    obtain ⟨u2, hu2, ru2⟩ := rv2.get hy
    have hzl : z < s.heap.objs.size := Heap.lt_size hz
    have li : i < its.toArray.size := by
      have := (List.getElem?_eq_some_iff.mp hu).1
      simpa using this
    have li2 : i < its2.toArray.size := by
      have := (List.getElem?_eq_some_iff.mp hu2).1
      simpa using this
    have hh := I.ok.hd hc
    refine wpAny_pyNext_zipX_item S (drawsB (A := X.A.in1) hh ba i1 a n1 its.toArray) (drawsB (A := X.A.in1) hh bb i2 b n2 its2.toArray) hz hzx hTI hTO ⟨h1, p⟩ ⟨h2, p2⟩ li li2 fun v1 v2 h' tk e1 e2 z' TO' d1 d2 hT hsz hk => ?_
    have ev1 : v1 = u := by
      have : its[i]? = some v1 := by simpa using e1
      rw [hu] at this; cases this; rfl
    have ev2 : v2 = u2 := by
      have : its2[i]? = some v2 := by simpa using e2
      rw [hu2] at this; cases this; rfl
    subst ev1; subst ev2
    refine ⟨_, rfl, wpAny_pure ?_⟩
    have hT2 : h'.get? s.heap.objs.size = some { cls := .type "tuple", data := .seq #[v1, v2] } := hT
    obtain ⟨c, hc⟩ : ∃ c : Bool, c = true ↔ PrV H x ∧ PrV H y := by
      by_cases h : PrV H x ∧ PrV H y
      · exact ⟨true, by simp [h]⟩
      · exact ⟨false, by simp only [Bool.false_eq_true, false_iff]; exact h⟩
    have new : ObjOk X.prog X.w (upd H s.heap.objs.size (tupO c { cls := .type "tuple", data := .seq [v1, v2].toArray } [x, y])) h' s.heap.objs.size (tupO c { cls := .type "tuple", data := .seq [v1, v2].toArray } [x, y]) :=
      tupO_ok hT2 (.cons ru (.cons ru2 .nil)) (by show 2 ≤ sizeLine; decide)
    have I1 : Inv X pins σ (upd H s.heap.objs.size (tupO c { cls := .type "tuple", data := .seq [v1, v2].toArray } [x, y])) { s with heap := h', toks := tk } :=
      I.turnedNew (t' := tk) (ch := [z, TI, TO, i1, i2]) (fun c o hb q => hk c o (fun q' => hb (by simp [q'])) (fun q' => hb (by simp [q'])) (fun q' => hb (by simp [q'])) (fun q' => hb (by simp [q'])) q) hf (Nat.le_refl _) new
    have i1z : i1 ≠ z := fun e => S.zf1 (by rw [e]; simp)
    have i2z : i2 ≠ z := fun e => S.zf2 (by rw [e]; simp)
    refine ⟨.ref s.heap.objs.size, _, I1, rfl, ⟨_, x, y, c, _, rfl, I.hok.fresh (Nat.le_refl _), ⟨rfl, hc⟩, rfl, fun l hl => by rw [hl.inj I hqx]; exact hx, fun l hl => by rw [hl.inj I hqy]; exact hy⟩, ⟨z', ?_, TO', d1.1, d2.1⟩, fun c hcm => ?_⟩
    · exact hk _ _ S.TIz S.TITO S.TIi1 S.TIi2 hTI
    · have hlt : c < s.heap.objs.size := by
        have e' : c = z ∨ c = TI ∨ c = TO ∨ c = i1 ∨ c = i2 := by simpa using hcm
        rcases e' with q | q | q | q | q
        · rw [q]; exact hzl
        · rw [q]; exact Heap.lt_size hTI
        · rw [q]; exact Heap.lt_size hTO
        · rw [q]; obtain ⟨_, e1, _⟩ := h1.obj; exact Heap.lt_size e1
        · rw [q]; obtain ⟨_, e2, _⟩ := h2.obj; exact Heap.lt_size e2
      rw [upd_ne (Nat.ne_of_lt hlt)]
      exact (hf c hcm).1
  done := by
    intro X hP hw hK hc i pins s σ H E I hf st hg
    subst hP hw hK
    obtain ⟨⟨zy, zf, hz, hzx⟩, hTI, ⟨x0, y0, hTO⟩, h1, h2⟩ := st
    obtain ⟨xs, ys, hqx, hqy, hle1, hle2, hend⟩ := hg
    obtain ⟨its, rv, p, _⟩ := hqx.arr I
    obtain ⟨its2, rv2, p2, _⟩ := hqy.arr I
    have l1 := rv.length
    have l2 := rv2.length
    have hh := I.ok.hd hc
    exact wpAny_pyNext_zipX_end S (drawsB (A := X.A.in1) hh ba i1 a n1 its.toArray) (drawsB (A := X.A.in1) hh bb i2 b n2 its2.toArray) hz hzx hTI hTO ⟨h1, p⟩ ⟨h2, p2⟩ (by simp; omega) (by simp; omega) (by simp; omega) fun h' tk hk => ⟨rfl, I.turnedL (t' := tk) (ch := [z, TI, TO, i1, i2]) (fun c o hb q =>
      hk c o (fun q' => hb (by simp [q'])) (fun q' => hb (by simp [q'])) (fun q' => hb (by simp [q'])) (fun q' => hb (by simp [q'])) q) hf⟩
  self := fun A i s Q E st h => by
    obtain ⟨⟨zy, zf, hz, hzx⟩, _⟩ := st
    exact pyIter_zipX hz h
theorem pi_zipN {X : Cx} {e e2 : Expr} {ta : TA} {p pos tpos : Pos} {nm : Str} (hg : Gl X "zip") (hm : X.mg "zip" = none) (ha : PA X [e, e2] ta)
    (hs : starEach [e, e2] X.env = (false, eval e X.env) :: starEach [e2] X.env := by rfl) (hpl : (backTo pos (starEach [e2] X.env)).any (·.1) = false := by rfl) :
    PI X (.Name nm tpos) (.Call (.Name "zip" p) [e, e2] [] pos) (iZipB X.K ta) := by
  refine ⟨fun pins s σ H R I h => ?_⟩
  refine Call_ (ld_blt I hg hm PyProof.Rows.boot_zip (PyProof.Rows.callWith_type1 (thn (ha.run pos pins s σ H _ I h) fun us s1 ⟨vs, H1, I1, r1, q1⟩ => ?_) hs hpl))
  obtain ⟨a, b, ba, bb, xs, ys, ex, hqx, hqy, q⟩ := q1
  subst ex
  cases r1 with
  | cons r rr =>
    cases rr with
    | cons r' rr =>
      cases rr
      cases r
      cases r'
      obtain ⟨its, rv, p1, la⟩ := hqx.arr I1
      obtain ⟨its2, rv2, p2, lb⟩ := hqy.arr I1
      refine zip_begins2 (beginsB ba a its.toArray) (beginsB bb b its2.toArray) p1 p2 fun h' hz hTI hTO h1 h2 hsz hk => wpAny_pyIter_zip hz ?_
      have I2 : Inv X pins σ H1 { s1 with heap := h' } := I1.kept (t' := s1.toks) hk
      have S : ZipSep2 (s1.heap.objs.size + 4) (s1.heap.objs.size + 2) (s1.heap.objs.size + 3) s1.heap.objs.size (s1.heap.objs.size + 1) [s1.heap.objs.size, a] [s1.heap.objs.size + 1, b] :=
        zip_sep2 (fun c hc => by rw [List.mem_singleton.mp hc]; exact la) (fun c hc => by rw [List.mem_singleton.mp hc]; exact lb)
      refine ⟨s1.heap.objs.size + 4, [s1.heap.objs.size + 4, s1.heap.objs.size + 2, s1.heap.objs.size + 3, s1.heap.objs.size, s1.heap.objs.size + 1], _, _, H1, rfl, I2, turn_zipN S (Nat.ne_of_lt la) (Nat.ne_of_lt (Nat.lt_succ_of_lt lb)), ⟨⟨_, _, hz, .inl rfl⟩, hTI, ⟨_, _, hTO⟩, .start h1, .start h2⟩, fun c hcm => ?_, q⟩
      have e' : c = s1.heap.objs.size + 4 ∨ c = s1.heap.objs.size + 2 ∨ c = s1.heap.objs.size + 3 ∨ c = s1.heap.objs.size ∨ c = s1.heap.objs.size + 1 := by simpa using hcm
      have hle : s1.heap.objs.size ≤ c := by
        rcases e' with z | z | z | z | z
        · rw [z]; exact Nat.le_add_right _ _
        · rw [z]; exact Nat.le_add_right _ _
        · rw [z]; exact Nat.le_add_right _ _
        · rw [z]; exact Nat.le_refl _
        · rw [z]; exact Nat.le_add_right _ _
      exact I1.fpOk hle (I1.hok.fresh hle)
section
variable {X : Cx} {e e2 : Expr} {p pos tpos : Pos} {nm : Str} {f k : DD}
theorem ji_ziph (hm : X.mg "zip" = none) (h1 : JD X e f) (h2 : JD X e2 k) (hg : Gl X "zip" := by rfl)
    (hs : starEach [e, e2] X.env = (false, eval e X.env) :: starEach [e2] X.env := by rfl) (hs2 : starEach [e2] X.env = (false, eval e2 X.env) :: starEach [] X.env := by rfl) (hpl : (backTo pos (starEach [e2] X.env)).any (·.1) = false := by rfl) :
    JI X (.Name nm tpos) (.Call (.Name "zip" p) [e, e2] [] pos) (dZip f k) :=
  PIi (pi_zipN hg hm (ja_cons h1 (ja_cons h2 ja_nil hs2) hs) hs hpl) fun σ H R ⟨g, Hs, env, τ, ds, τ', r, hf, q⟩ => by
    obtain ⟨x, τ1, h1, h2⟩ := bnd_eq hf
    obtain ⟨y, τ2, h3, h4⟩ := bnd_eq h2
    split at h4
    · rename_i xs ys hx hy
      cases h4
      refine ⟨g, Hs, env, τ, [x, y], τ', r, by show bnd (f env τ) _ = _; rw [h1]; show bnd (bnd (k env τ1) _) _ = _; rw [h3]; rfl, fun ws Hs1 H1 u1 rs => ?_⟩
      cases rs with
      | cons a1 b1 =>
        cases b1 with
        | cons a2 b2 =>
          cases b2
          obtain ⟨a, ba, vs, rfl, rx, lx, sx⟩ := rp_sq (K := X.K) u1.le a1 hx
          obtain ⟨b, bb, us, rfl, ry, ly, sy⟩ := rp_sq (K := X.K) u1.le a2 hy
          refine ⟨a, b, ba, bb, vs, us, rfl, sx H1 u1.le, sy H1 u1.le, q _ Hs1 H1 u1 ?_ ?_⟩
          · rw [zipD_len, ← rx.len]; omega
          · refine ⟨fun H => SqB X.K ba H a vs ∧ SqB X.K bb H b us, YPairO (fun i => vs[i]?) (fun i => us[i]?), by rw [zipD_len]; exact walk_zipB (xs := vs) (ys := us) (by rw [rx.len, ry.len]), fun Hs2 H2 τ2 f2 => ⟨sx _ (f2.s.trans f2.le), sy _ (f2.s.trans f2.le)⟩, fun Hs2 H2 τ2 i v H3 d f2 yy hd => ?_⟩
            obtain ⟨T, v1, v2, c, o, rfl, hT, ⟨ho, hc⟩, rfl, e1, e2⟩ := yy
            have e1 : vs[i]? = some v1 := e1
            have e2 : us[i]? = some v2 := e2
            obtain ⟨d1, d2, g1, g2, rfl⟩ := zipD_get hd
            obtain ⟨w1, e1', r1⟩ := rx.get g1
            obtain ⟨w2, e2', r2⟩ := ry.get g2
            rw [e1] at e1'; cases e1'
            rw [e2] at e2'; cases e2'
            have hcm : c = cmL [d1, d2] := by
              have q1 := prV_iff f2.le (r1.to f2.s)
              have q2 := prV_iff f2.le (r2.to f2.s)
              rw [Bool.eq_iff_iff, hc, q1, q2]
              simp [cmL]
            rw [hcm]
            exact new_pair f2.le f2.tp hT (r1.to f2.s) (r2.to f2.s) o ho
    · cases h4
theorem jc_ziph (hm : X.mg "zip" = none) (h1 : JR X e f) (h2 : JR X e2 k) (hg : Gl X "zip" := by rfl)
    (hs : starEach [e, e2] X.env = (false, eval e X.env) :: starEach [e2] X.env := by rfl) (hs2 : starEach [e2] X.env = (false, eval e2 X.env) :: starEach [] X.env := by rfl) (hpl : (backTo pos (starEach [e2] X.env)).any (·.1) = false := by rfl) :
    JC X (.Name nm tpos) (.Call (.Name "zip" p) [e, e2] [] pos) (dZip f k) :=
  PIi (pi_zipN hg hm (jr_cons h1 (jr_cons h2 jr_nil hs2) hs) hs hpl) fun σ H R ⟨g, Hs, env, τ, ds, τ', r, hf, q⟩ => by
    obtain ⟨x, τ1, h1, h2⟩ := bnd_eq hf
    obtain ⟨y, τ2, h3, h4⟩ := bnd_eq h2
    split at h4
    · rename_i xs ys hx hy
      cases h4
      refine ⟨g, Hs, env, τ, [x, y], τ', r, by show bnd (f env τ) _ = _; rw [h1]; show bnd (bnd (k env τ1) _) _ = _; rw [h3]; rfl, fun ws Hs1 H1 u1 rs => ?_⟩
      cases rs with
      | cons a1 b1 =>
        cases b1 with
        | cons a2 b2 =>
          cases b2
          obtain ⟨a, ba, vs, rfl, rx, lx, sx⟩ := rdb_sq (K := X.K) (τ := τ') a1 hx
          obtain ⟨b, bb, us, rfl, ry, ly, sy⟩ := rdb_sq (K := X.K) (τ := τ') a2 hy
          have u0 := Up.refl u1.le u1.tp
          refine ⟨a, b, ba, bb, vs, us, rfl, sx _ _ _ u1.le u0, sy _ _ _ u1.le u0, q _ Hs1 H1 u1 ?_ ?_⟩
          · rw [zipD_len, ← rx.len]; omega
          · refine ⟨fun H => SqB X.K ba H a vs ∧ SqB X.K bb H b us, YPairO (fun i => vs[i]?) (fun i => us[i]?), by rw [zipD_len]; exact walk_zipB (xs := vs) (ys := us) (by rw [rx.len, ry.len]), fun Hs2 H2 τ2 f2 => ⟨sx _ _ _ u1.le f2, sy _ _ _ u1.le f2⟩, fun Hs2 H2 τ2 i v H3 d f2 yy hd => ?_⟩
            obtain ⟨T, v1, v2, c, o, rfl, hT, ⟨ho, hc⟩, rfl, e1, e2⟩ := yy
            have e1 : vs[i]? = some v1 := e1
            have e2 : us[i]? = some v2 := e2
            obtain ⟨d1, d2, g1, g2, rfl⟩ := zipD_get hd
            obtain ⟨w1, e1', r1⟩ := rx.get g1
            obtain ⟨w2, e2', r2⟩ := ry.get g2
            rw [e1] at e1'; cases e1'
            rw [e2] at e2'; cases e2'
            have hcm : c = cmL [d1, d2] := by
              have q1 := prV_iff f2.le (r1.to f2.s)
              have q2 := prV_iff f2.le (r2.to f2.s)
              rw [Bool.eq_iff_iff, hc, q1, q2]
              simp [cmL]
            rw [hcm]
            exact new_pair f2.le f2.tp hT (r1.to f2.s) (r2.to f2.s) o ho
    · cases h4
end
end Pv
namespace Pv
open PySem L2 PySem.Spec PyProof.Rows
variable [Tbl]
def tDisp1T (tk tv : TE) : TE := fun σ H Q => ∀ p, H p = none → tk σ (upd H p (.dT [])) fun y H1 => tv σ H1 fun z H2 => ∃ b k, y = .ref b ∧ H2 b = some (.tup (List.map kV k)) ∧ H2 p = some (.dT []) ∧ Q (.ref p) (upd H2 p (.dT [(k, z)]))
theorem pe_disp1T {X : Cx} {k v : Expr} {pos : Pos} {tk tv : TE} (hu : X.A.units + 64 < cLine) (hk : PE X k tk) (hv : PE X v tv) : PE X (.Dict [some k] [v] pos) (tDisp1T tk tv) := by
  refine ⟨fun pins s σ H Q I q => ?_⟩
  have hn := I.hok.fresh (Nat.le_refl s.heap.objs.size)
  have I1 : Inv X pins σ (upd H s.heap.objs.size (.dT [])) { s with heap := s.heap.push { cls := .type "dict", data := .dict #[] } } := I.laid (t' := s.toks) (fun _ _ q => Heap.get?_push_of_some _ q) (Nat.le_refl _) (dt_empty s.heap I.big)
  have q := q _ hn
  have hlen : (pairTrees [some k] [v] X.env pos).length ≤ 15 := by rw [pairTrees_length [some k] [v] X.env pos rfl rfl]; exact Nat.le_of_ble_eq_true rfl
  have h0 : pairTrees [some k] [v] X.env pos ≠ [] := fun z => by
    have := pairTrees_length [some k] [v] X.env pos rfl rfl
    rw [z] at this; cases this
  rw [arm_eval_Dict, zip_pairTrees [some k] [v] X.env pos rfl rfl, dictDisplay_pairs _ h0 (by omega)]
  refine wpAny_bind (wpAny_standAt (wpAny_bind ?_))
  unfold subDict
  refine wpAny_bind (wpAny_alloc ?_)
  refine wpAny_bind (wpAny_holding ?_)
  rw [if_pos hlen]
  refine wpAny_bind (pairTrees_cons_walk (thn (hk.run pins _ σ _ _ I1 q) fun u s1 ⟨x, H1, I2, rx, q1⟩ => thn (hv.run pins s1 σ H1 _ I2 q1) fun w2 s2 ⟨y, H2, I3, ry, q2⟩ => pairTrees_nil_walk ?_))
  obtain ⟨b, kk, rfl, hb, hD, q3⟩ := q2
  cases rx
  refine wpAny_holding ?_
  rw [List.forIn_cons]
  refine wpAny_bind (wpAny_bind (wpAny_bind (put_tup (by omega) I3 hD hb (by rw [sizeLine_eq]; decide) ry fun s' I' => wpAny_pure ?_)))
  dsimp only
  rw [List.forIn_nil]
  exact wpAny_pure (wpAny_pure (wpAny_pure (wpAny_pure ⟨.ref s.heap.objs.size, _, I', rfl, q3⟩)))
def dDisp1T (k f : DD) : DE := fun env τ => bnd (k env τ) fun d τ1 => bnd (f env τ1) fun x τ2 => match keyT d with
  | some c => some (.dt [(c, x)], τ2)
  | none => none
theorem jdisp1T {X : Cx} {pos : Pos} {k v : Expr} {kd fd : DD} (hu : X.A.units + 64 < cLine) (hk : JD X k kd) (hv : JD X v fd) : JV X (.Dict [some k] [v] pos) (dDisp1T kd fd) :=
  PEi (pe_disp1T hu hk hv) fun σ H Q ⟨g, Hs, env, τ, o, τ', r, hf, q⟩ => by
    obtain ⟨d, τ1, h1, h2⟩ := bnd_eq hf
    obtain ⟨x, τ2, h3, h4⟩ := bnd_eq h2
    split at h4
    · rename_i c hc
      cases h4
      intro p hp
      have u0 := Up.refl r.le r.tp
      have nT := u0.neT hp
      have um := u0.mk1 (o := .dT []) hp
      refine ⟨g, Hs, env, τ, d, τ1, r.up um, h1, fun w Hs1 H1 u1 rd => ⟨g, Hs1, env, τ1, x, τ', (r.up um).up u1, h3, fun w2 Hs2 H2 u2 rx => ?_⟩⟩
      have ut := u1.trans u2
      have hp2 := ut.h _ _ upd_same nT rfl
      have hn2 : Hs2 p = none := by
        cases z : Hs2 p with
        | none => rfl
        | some o =>
          have := ut.f p o z (u0.freeS hp)
          rw [upd_same] at this; cases this
      obtain ⟨ba, eb, hb⟩ := keyT_v hc rd
      refine ⟨ba, c, eb, u2.le _ _ (u2.s _ _ hb), hp2, ?_⟩
      refine q _ Hs2 _ ((um.trans ut).put hp hn2 nT hp2 rfl) ⟨p, _, rfl, nT, hn2, upd_same, ?_⟩ fun _ p' e => by cases e; exact hp
      exact .cons ⟨rfl, rx⟩ .nil
    · cases h4
end Pv
namespace Pv
open PySem L2 PySem.Spec PyProof.Rows
variable [Tbl]
section
variable {prog : Program} {w : World} {A : Around} {R : Result → Shared → Prop} {I : Addr} {fp wr : List Addr} {n : Nat} {P : Nat → Value → Prop} {St : Nat → Shared → Prop}
theorem sum_loopL (W : WalksS prog w A.in1 I fp wr (fun a b => b = a) n P St) (part : Nat → List Value) (S e0 : Addr) (hSf : S ∉ fp) (hwS : ∀ b ∈ wr, b < S) (hz : ∀ i, i ≤ n → ((List.range i).flatMap part).length ≤ sizeLine) :
    ∀ (k i : Nat) (s : Shared) (q : Addr) (c nq : Nat), n - i = k → i ≤ n → St i s → s.heap.get? S = some { cls := .type "list", dict := none, data := .seq #[.ref q] c, slots := #[] } → IsL s.heap q ((List.range i).flatMap part).toArray nq → q ≠ S → q ∉ wr →
    (∀ i v, P i v → ∃ a m, v = .ref a ∧ a ≠ S ∧ a ∉ wr ∧ IsL s.heap a (part i).toArray m) → ((i = 0 ∧ q = e0) ∨ (0 < i ∧ S < q)) →
    (∀ s' q' m', Moved (S :: wr) (fun a b => b = a) s s' → IsL s'.heap q' ((List.range n).flatMap part).toArray m' → ((n = 0 ∧ q' = e0) ∨ (0 < n ∧ S < q')) → R (.ok (.ret (.ref q'))) s') → codeAny (model prog w) A (.builtin "sum.loop" ⟨[.ref I, .ref S, rawInt 2, rawInt 0], []⟩) R s := by
  have hSw : S ∉ wr := fun h => hSf (W.sub _ h)
  have hsub : ∀ b ∈ wr, b ∈ S :: wr := fun b hb => List.mem_cons_of_mem _ hb
  intro k
  induction k with
  | zero =>
    intro i s q c nq hk hi hst hS hq hqS hqw hP hor hR
    have hin : i = n := by omega
    subst hin
    refine codeAny_builtin F.entry_sum_loop ?_
    rw [Around.under_plainId F.plain_sum_loop _]
    show wpAny _ A.in1 (seqItems? (.ref S) >>= _) _ _ s
    refine wpAny_bind (wpAny_seqItems hS rfl ?_)
    show wpAny _ A.in1 (tryCatch (pyNext (.ref I)) _ >>= _) _ _ s
    refine wpAny_bind (wpAny_tryCatch (W.done s _ _ hst fun s' hm => ?_))
    exact wpAny_pure (hR s' q nq (hm.mono hsub) (hm.heap q _ hqw hq) hor)
  | succ k ih =>
    intro i s q c nq hk hi hst hS hq hqS hqw hP hor hR
    have hlt : i < n := by omega
    refine codeAny_builtin F.entry_sum_loop ?_
    rw [Around.under_plainId F.plain_sum_loop _]
    show wpAny _ A.in1 (seqItems? (.ref S) >>= _) _ _ s
    refine wpAny_bind (wpAny_seqItems hS rfl ?_)
    show wpAny _ A.in1 (tryCatch (pyNext (.ref I)) _ >>= _) _ _ s
    refine wpAny_bind (wpAny_tryCatch (W.item i s _ _ hlt hst fun v s' hPv hst' hm => ?_))
    obtain ⟨a, m, rfl, haS, haw, hla⟩ := hP i v hPv
    have hS' := hm.heap S _ hSw hS
    have hq' : IsL s'.heap q _ nq := hm.heap q _ hqw hq
    have ha' : IsL s'.heap a _ m := hm.heap a _ haw hla
    have hSl : S < s'.heap.objs.size := Heap.lt_size hS'
    have hsz : ((List.range i).flatMap part).toArray.size + (part i).toArray.size ≤ sizeLine := by
      have := hz (i + 1) hlt
      rw [List.range_succ, List.flatMap_append, List.length_append] at this
      simpa using this
    show wpAny _ A.in1 ((holding [Value.ref a] (binaryOp .Add (.ref q) (.ref a))).attempt >>= _) _ _ _
    refine wpAny_bind (wpAny_attempt (wpAny_holding (PySem.P.add_list hq' ha' ?_ hsz)))
    have hp0 : ∀ b o, s'.heap.get? b = some o → (s'.heap.push { cls := .type "list", data := .seq (((List.range i).flatMap part).toArray ++ (part i).toArray) }).get? b = some o := fun b o e => Heap.get?_push_of_some _ e
    have hn0 : IsL (s'.heap.push { cls := .type "list", data := .seq (((List.range i).flatMap part).toArray ++ (part i).toArray) }) s'.heap.objs.size (((List.range i).flatMap part).toArray ++ (part i).toArray) 0 := IsL.new _ _
    have hs0 : (s'.heap.push { cls := .type "list", data := .seq (((List.range i).flatMap part).toArray ++ (part i).toArray) }).objs.size = s'.heap.objs.size + 1 := by rw [Heap.size_push]
    generalize s'.heap.push { cls := .type "list", data := .seq (((List.range i).flatMap part).toArray ++ (part i).toArray) } = h1 at hp0 hn0 hs0
    have hS1 := hp0 _ _ hS'
    show wpAny _ A.in1 (updateSeq S (fun _ => #[.ref s'.heap.objs.size]) >>= _) _ _ _
    refine wpAny_bind (wpAny_updateSeq hS1 rfl ?_)
    have hS₂ := Heap.get?_update_self (Obj.mapSeq fun _ => #[Value.ref s'.heap.objs.size]) hS1 rfl
    refine wpAny_bind (wpAny_letGo ?_)
    refine wpAny_bind (wpAny_updateSeq hS₂ rfl (wpAny_pure ⟨plainId_quiet F.plain_sum_loop _, ?_⟩))
    have hk2 : ∀ b o, b ≠ S → s'.heap.get? b = some o → ((h1.update S (Obj.mapSeq fun _ => #[Value.ref s'.heap.objs.size])).update S (Obj.mapSeq fun _ => #[Value.ref s'.heap.objs.size])).get? b = some o := fun b o hb e =>
      (Heap.get?_update_other _ _ (fun h : S = b => hb h.symm)).trans ((Heap.get?_update_other _ _ (fun h : S = b => hb h.symm)).trans (hp0 b o e))
    have hnS : S ≠ s'.heap.objs.size := Nat.ne_of_lt hSl
    have hn2 : IsL ((h1.update S (Obj.mapSeq fun _ => #[Value.ref s'.heap.objs.size])).update S (Obj.mapSeq fun _ => #[Value.ref s'.heap.objs.size])) s'.heap.objs.size ((List.range (i + 1)).flatMap part).toArray 0 := by
      have e1 : ((List.range (i + 1)).flatMap part).toArray = ((List.range i).flatMap part).toArray ++ (part i).toArray := by
        rw [List.range_succ, List.flatMap_append]
        simp
      rw [e1]
      exact (Heap.get?_update_other _ _ hnS).trans ((Heap.get?_update_other _ _ hnS).trans hn0)
    refine ih (i + 1) _ s'.heap.objs.size _ 0 (by omega) hlt (W.frame _ s' _ _ hst' (by first | exact Nat.le_refl _ | exact Nat.le_succ _ | omega) fun b hb o e => hk2 b o (fun h => hSf (h ▸ hb)) e) (Heap.get?_update_self _ hS₂ rfl) hn2 hnS.symm (fun h => ?_) (fun j v hv => ?_) (.inr ⟨Nat.succ_pos _, hSl⟩) fun s'' q' m' hm'' h1 h2 => ?_
    · exact absurd (hwS _ h) (Nat.not_lt.mpr (Nat.le_of_lt hSl))
    · obtain ⟨a2, m2, e2, h2, h3, h4⟩ := hP j v hv
      exact ⟨a2, m2, e2, h2, h3, hk2 _ _ h2 (hm.heap _ _ h3 h4)⟩
    · refine hR s'' q' m' (Moved.trans W.gtrans ((hm.mono hsub).then_heap (by first | exact Nat.le_refl _ | exact Nat.le_succ _ | omega) fun b o hb e => hk2 b o (fun h => hb (h ▸ List.mem_cons_self)) e) hm'') h1 (h2.elim (fun ⟨h, _⟩ => by omega) .inr)
end
section
variable {prog : Program} {w : World} {A : Around} {E : Value → Shared → Prop} {s : Shared}
theorem args_sum2 (a b : Value) : argsOk "sum" ⟨[a, b], []⟩ := by unfold argsOk; kernel_rfl
theorem sum_lists {l e : Addr} {vs : List Value} (part : Nat → List Value) {Q : Value → Shared → Prop} (hh : A.handled = none) (hl : s.heap.IsList l vs.toArray) {ne : Nat} (he : IsL s.heap e #[] ne) (hz : ∀ i, i ≤ vs.length → ((List.range i).flatMap part).length ≤ sizeLine)
    (hP : ∀ i v, vs[i]? = some v → ∃ a m, v = .ref a ∧ IsL s.heap a (part i).toArray m)
    (h : ∀ h' tk q m, (∀ b o, s.heap.get? b = some o → h'.get? b = some o) → IsL h' q ((List.range vs.length).flatMap part).toArray m → ((vs.length = 0 ∧ q = e) ∨ (0 < vs.length ∧ s.heap.objs.size ≤ q)) → Q (.ref q) { s with heap := h', toks := tk }) :
    wpAny (model prog w) A (call (.builtin "sum") [.ref l, .ref e]) Q E s := by
  refine call_function_tree F.kind_sum F.plain_sum F.entry_sum (args_sum2 _ _) ?_
  unfold Builtin.«sum»
  simp only [List.length_cons, List.length_nil]
  rw [if_neg (by decide)]
  refine wpAny_bind (wpAny_of_eq (show Builtin.Builtins.bindParams "sum" ["start"] 0 ⟨[.ref e], []⟩ = pure [some (.ref e)] from rfl) ?_)
  refine wpAny_bind (W.iter_listW (A := A.in1) hh hl fun s₂ e2 W hst hfp _ hkeep => ?_)
  refine wpAny_bind (wpAny_pure ?_)
  have heL : s₂.TypeIs (.ref e) "list" := (IsL.isList (hkeep _ _ he)).typeIs
  simp only [List.forIn_cons, List.forIn_nil]
  refine wpAny_bind (wpAny_bind (wpAny_bind (wpAny_isInstance (T := "list") (b := false) heL F.sub_list_str ?_)))
  simp only [Bool.false_eq_true, if_false]
  refine wpAny_pure (wpAny_bind (wpAny_bind (wpAny_isInstance (T := "list") (b := false) heL F.sub_list_bytes ?_)))
  simp only [Bool.false_eq_true, if_false]
  refine wpAny_pure (wpAny_bind (wpAny_bind (wpAny_isInstance (T := "list") (b := false) heL F.sub_list_bytearray ?_)))
  simp only [Bool.false_eq_true, if_false]
  refine wpAny_pure (wpAny_pure ?_)
  refine wpAny_bind (wpAny_newObj_type ?_)
  have hSf : s₂.heap.objs.size ∉ [s.heap.objs.size, l] := fun hm => Nat.lt_irrefl _ (hfp _ hm)
  have hI : s.heap.objs.size < s₂.heap.objs.size := hfp _ List.mem_cons_self
  have hsz : vs.toArray.size = vs.length := by simp
  have hwr : ∀ b o, s.heap.get? b = some o → b ∉ [s.heap.objs.size] := fun b o hb hm => by
    have := Heap.lt_size hb
    rw [List.mem_singleton] at hm
    exact Nat.lt_irrefl _ (hm ▸ this)
  refine wpAny_pure ⟨plainId_quiet F.plain_sum_loop _, sum_loopL W part s₂.heap.objs.size e hSf (fun b hb => by rw [List.mem_singleton] at hb; rw [hb]; exact hI) (fun i hi => hz i (by omega)) vs.toArray.size 0 _ e _ ne rfl (Nat.zero_le _)
    (W.frame 0 s₂ _ _ hst (by first | exact Nat.le_refl _ | exact Nat.le_succ _ | omega) fun b _ o e => Heap.get?_push_of_some _ e) (Heap.get?_push_size _ rfl) (Heap.get?_push_of_some _ (hkeep _ _ he)) ?_ (hwr _ _ he) (fun i v hv => ?_) (.inl ⟨rfl, rfl⟩) fun s' q m hm hq hor => ?_⟩
  · exact Nat.ne_of_lt (Heap.lt_size (hkeep _ _ he))
  · rw [List.getElem?_toArray] at hv
    obtain ⟨a, m, rfl, ha⟩ := hP i v hv
    have := Heap.lt_size (hkeep _ _ ha)
    exact ⟨a, m, rfl, Nat.ne_of_lt this, hwr _ _ ha, Heap.get?_push_of_some _ (hkeep _ _ ha)⟩
  · rw [hsz] at hq hor
    have := h s'.heap s'.toks q m (fun b o hb => hm.heap b o (fun hw => by
      rcases List.mem_cons.mp hw with rfl | hw
      · exact Nat.lt_irrefl _ (Heap.lt_size (hkeep _ _ hb))
      · exact hwr _ _ hb hw) (Heap.get?_push_of_some _ (hkeep _ _ hb))) hq (hor.imp id fun h => ⟨h.1, Nat.le_trans (Nat.le_of_lt hI) (Nat.le_of_lt h.2)⟩)
    have e3 : ({ s with heap := s'.heap, toks := s'.toks } : Shared) = s' := by
      have e4 := hm.gens
      have e5 := hm.drawn
      have e6 := hm.os
      subst e2
      obtain ⟨a1, a2, a3, a4, a5⟩ := s'
      obtain ⟨b1, b2, b3, b4, b5⟩ := s
      simp at e4 e5 e6 ⊢
      exact ⟨e4.symm, e5.symm, e6.symm⟩
    rw [e3] at this
    exact this
end
/-! ### sum(x, []), by values -/
def rSumL : List V → Hp → VK → Prop := fun vs H Q => ∃ (l e : Addr) (ps : List (Addr × List V)), vs = [V.ref l, V.ref e] ∧ H l = some (.lst (ps.map fun p => V.ref p.1)) ∧ (∀ p ∈ ps, H p.1 = some (.lst p.2)) ∧ H e = some (.lst []) ∧ (ps.flatMap (·.2)).length ≤ sizeLine ∧
  (ps = [] → Q (.ref e) H) ∧ (ps ≠ [] → ∀ p, H p = none → Q (.ref p) (upd H p (.lst (ps.flatMap (·.2)))))
theorem flat_take (parts : List (List Value)) : ∀ n, n ≤ parts.length → ((List.range n).flatMap fun i => parts.getD i []) = (parts.take n).flatten
  | 0, _ => by simp
  | n + 1, h => by
    rw [List.range_succ, List.flatMap_append, flat_take parts n (by omega), List.take_succ_eq_append_getElem (by omega), List.flatten_append]
    simp [List.getD, List.getElem?_eq_getElem (show n < parts.length by omega)]
section
variable {X : Cx} {pins : List (Addr × Obj)} {σ : L2.St} {H : Hp} {s : Shared}
theorem parts_of (I : Inv X pins σ H s) : ∀ (ps : List (Addr × List V)), (∀ p ∈ ps, H p.1 = some (.lst p.2)) → ∃ parts : List (List Value), parts.length = ps.length ∧ Vals (ps.flatMap (·.2)) parts.flatten ∧ ∀ i p, ps[i]? = some p → ∃ m, IsL s.heap p.1 (parts.getD i []).toArray m
  | [], _ => ⟨[], rfl, .nil, fun i p h => by simp at h⟩
  | p :: ps, h => by
    obtain ⟨parts, h1, h2, h3⟩ := parts_of I ps fun q hq => h q (List.mem_cons_of_mem _ hq)
    obtain ⟨z, its, n, r, hl, e⟩ := I.lstM (h p List.mem_cons_self)
    refine ⟨its :: parts, by rw [List.length_cons, List.length_cons, h1], r.append h2, fun i q hq => ?_⟩
    cases i with
    | zero => simp at hq; subst hq; exact ⟨n, e⟩
    | succ i => exact h3 i q (by simpa using hq)
theorem cr_sumL (hc : X.calm = true) : CallR X (.builtin "sum") rSumL := fun pins s σ H xs us Q I r h => by
  obtain ⟨l, e, ps, rfl, hl, hp, he, hz, q0, q1⟩ := h
  obtain ⟨zl, its, nl, rl, hll, el⟩ := I.lstM hl
  obtain ⟨ze, ite, ne, re, hle, ee⟩ := I.lstM he
  cases re
  obtain ⟨parts, p1, p2, p3⟩ := parts_of I ps hp
  have hil : its.length = ps.length := by rw [← hll, List.length_map]
  have hu : us = [.ref l, .ref e] := by
    cases r with
    | cons r1 t1 =>
      cases r1
      cases t1 with
      | cons r2 t2 =>
        cases r2
        cases t2
        rfl
  subst hu
  refine sum_lists (fun i => parts.getD i []) (I.ok.hd hc) (IsL.isList el) ee (fun i hi => ?_) (fun i v hv => ?_) fun h' tk q m hk hq hor => ?_
  · rw [flat_take parts i (by omega)]
    refine Nat.le_trans ?_ (Nat.le_trans (Nat.le_of_eq p2.length.symm) hz)
    have e2 : parts.flatten = (parts.take i).flatten ++ (parts.drop i).flatten := by rw [← List.flatten_append, List.take_append_drop]
    rw [e2, List.length_append]
    omega
  · have hlt : i < ps.length := by have := (List.getElem?_eq_some_iff.mp hv).1; omega
    obtain ⟨p, hpp⟩ : ∃ p, ps[i]? = some p := ⟨_, List.getElem?_eq_getElem hlt⟩
    obtain ⟨m, hm⟩ := p3 i p hpp
    have hvv := rl.get (i := i) (x := V.ref p.1) (by rw [List.getElem?_map, hpp]; rfl)
    obtain ⟨u, hu1, hu2⟩ := hvv
    rw [hv] at hu1
    cases hu1
    cases hu2
    exact ⟨p.1, m, rfl, hm⟩
  · rw [flat_take parts its.length (by omega), show its.length = parts.length by omega, List.take_length] at hq
    by_cases hn : ps = []
    · subst hn
      rcases hor with ⟨_, rfl⟩ | ⟨h0, _⟩
      · exact ⟨.ref q, H, I.kept hk, rfl, q0 rfl⟩
      · rw [hil] at h0
        exact absurd h0 (Nat.lt_irrefl 0)
    · rcases hor with ⟨h0, _⟩ | ⟨_, hor⟩
      · exact absurd (List.eq_nil_of_length_eq_zero (by omega)) hn
      · exact ⟨.ref q, upd H q (.lst (ps.flatMap (·.2))), I.laid hk hor ⟨hz, _, m, p2, hq⟩, rfl, q1 hn q (I.hok.fresh hor)⟩
end
/-! ### by data -/
def lisD : List D → Option (List D)
  | [] => some []
  | .list xs :: ds => (lisD ds).map (xs ++ ·)
  | _ => none
theorem lis_ps {Hs : Hp} : ∀ {ds : List D} {xs : List V} {es : List D}, Rps Hs xs ds → lisD ds = some es → ∃ ps : List (Addr × List V), xs = ps.map (fun p => V.ref p.1) ∧ (∀ p ∈ ps, Hs p.1 = some (.lst p.2)) ∧ Rps Hs (ps.flatMap (·.2)) es
  | [], xs, es, r, e => by
    cases r
    cases e
    exact ⟨[], rfl, fun p h => by (cases h), .nil⟩
  | d :: ds, xs, es, r, e => by
    cases r with
    | cons r1 r2 =>
      cases d with
      | list ys =>
        rw [lisD] at e
        cases q : lisD ds with
        | none => rw [q] at e; cases e
        | some zs =>
          rw [q] at e
          cases e
          obtain ⟨ps, h1, h2, h3⟩ := lis_ps r2 q
          cases r1 with
          | lst a1 a2 a3 =>
            rename_i a vs
            refine ⟨(a, vs) :: ps, by rw [h1]; rfl, fun p hp => ?_, a3.app h3⟩
            rcases List.mem_cons.mp hp with rfl | hp
            · exact a1
            · exact h2 p hp
      | _ => cases e
def dSumL (f : DD) : DE := fun env τ => bnd (f env τ) fun d τ1 => match d with
  | .list ds => match lisD ds with
    | some es => if es.length ≤ 16777216 then some (if ds = [] then .sh (.list []) else .ow es, τ1) else none
    | none => none
  | _ => none
section
variable {X : Cx} {e : Expr} {f : DD} {p p2 pos : Pos}
theorem jsumL (hm : X.mg "sum" = none) (he : JR X e f) (hc : X.calm = true := by rfl) (hg : Gl X "sum" := by rfl) (hs1 : starEach [.List [] p2] X.env = (false, eval (.List [] p2) X.env) :: starEach [] X.env := by rfl) (hs : starEach [e, .List [] p2] X.env = (false, eval e X.env) :: starEach [.List [] p2] X.env := by rfl) (hpl : (backTo pos (starEach [.List [] p2] X.env)).any (·.1) = false := by rfl) : JV X (.Call (.Name "sum" p) [e, .List [] p2] [] pos) (dSumL f) :=
  PEi (pe_callB (cr_sumL hc) hg hm (by decide +kernel) (pa_cons he (pa_cons (jd_v (jlst (pos := p2) ja_nil)) pa_nil hs1) hs) (by decide) (by decide) hs hpl) fun σ H Q ⟨g, Hs, env, τ, v, τ', r, hf, q⟩ => by
    obtain ⟨d, τ1, h1, h2⟩ := bnd_eq hf
    refine ⟨g, Hs, env, τ, d, τ1, r, h1, fun w Hs1 H1 u1 r1 => ⟨g, Hs1, env, τ1, .list [], τ1, r.up u1, rfl, fun w2 Hs2 H2 u2 r2 => ?_⟩⟩
    have r1 := r1.up u2
    have u := u1.trans u2
    cases d with
    | list ds =>
      cases hes : lisD ds with
      | none => simp only [hes] at h2; cases h2
      | some es =>
        simp only [hes] at h2
        by_cases hl : es.length ≤ 16777216
        · rw [if_pos hl] at h2
          cases h2
          obtain ⟨l, xs, rfl, hH, hz, rp⟩ := r1.list u2.le
          obtain ⟨ps, e1, e2, e3⟩ := lis_ps rp hes
          have r2' := r2
          cases r2' with
          | lst a1 a2 a3 =>
            cases a3
            subst e1
            refine ⟨l, _, ps, rfl, hH, fun p hp => u2.le _ _ (e2 p hp), u2.le _ _ a1, by rw [e3.len, line_eq]; exact hl, fun hn => ?_, fun hn p hp => ?_⟩
            · subst hn
              have hd : ds = [] := List.eq_nil_of_length_eq_zero (by rw [← rp.len]; rfl)
              subst hd
              rw [if_pos rfl] at q
              exact q _ _ _ u r2 fun z => by cases z
            · have hd : ds ≠ [] := fun z => by
                subst z
                have := rp.len
                rw [List.length_map] at this
                exact hn (List.eq_nil_of_length_eq_zero this)
              rw [if_neg hd] at q
              exact q _ _ _ (u.mk1 hp) ⟨p, _, rfl, u.neT hp, u.freeS hp, upd_same, by rw [e3.len, line_eq]; exact hl, e3⟩ fun _ p' e => by cases e; exact u.old hp
        · rw [if_neg hl] at h2; cases h2
    | _ => cases h2
end
end Pv
namespace Pv
open PySem L2 PySem.Spec PyProof.Rows
variable [Tbl]
def okLay (ds : List D) (d : D) : Bool := PyData.canLayAll0 ds && d.canLay0 && decide (min (PyData.depthAll ds) d.depth ≤ 60)
theorem okLay_of {ds : List D} {d : D} (h : okLay ds d = true) : PyData.canLayAll0 ds = true ∧ d.canLay0 = true ∧ min (PyData.depthAll ds) d.depth ≤ 60 := by
  unfold okLay at h
  rw [Bool.and_eq_true, Bool.and_eq_true] at h
  exact ⟨h.1.1, h.1.2, of_decide_eq_true h.2⟩
def rCntD (K : PySem.W.Frag) : V → List V → Hp → VK → Prop := fun x xs H Q => ∃ (a : Addr) (y : V) (d : D) (ds : List D), x = V.ref a ∧ xs = [y] ∧ Dp K H (V.ref a) (.list ds) ∧ Dp K H y d ∧ okLay ds d = true ∧ Q (.int (ds.countP fun z => PyData.eqv z d : Nat)) H
def rIdxD (K : PySem.W.Frag) : V → List V → Hp → VK → Prop := fun x xs H Q => ∃ (a : Addr) (y : V) (d : D) (ds : List D) (j : Nat), x = V.ref a ∧ xs = [y] ∧ Dp K H (V.ref a) (.list ds) ∧ Dp K H y d ∧ okLay ds d = true ∧ ds.length ≤ 16777216 ∧ ds.findIdx? (fun z => PyData.eqv z d) = some j ∧ Q (.int (j : Nat)) H
section
variable {X : Cx}
theorem mt_cntD (hu : X.A.units + 64 < cLine) : MtR X "list.count" (rCntD X.K) := by
  intro pins s σ H x xs v us Q I rx rxs h
  obtain ⟨a, y, d, ds, rfl, rfl, hl, hy, hok, q⟩ := h
  obtain ⟨hxs, hd, hdep⟩ := okLay_of hok
  cases rx
  cases rxs with
  | cons ry rt =>
    rename_i uy ut
    cases rt
    obtain ⟨bs, r1⟩ := Dp.reads I d y uy hy ry
    have hroom : X.A.units + 1 + min (PyData.depthAll ds) d.depth < cLine := by omega
    cases hl with
    | lst hs ha =>
      obtain ⟨its, rv, ⟨⟨cls, dd, data, sls⟩, n, ho, hc, hdn, hdt⟩, hlen⟩ := I.list hs
      simp only at hc hdt
      subst hc hdt
      obtain ⟨as, h4⟩ := Dp.readsAll I ds _ its ha rv
      have hmap : its.map (SeqAt.readOf s.heap) = ds := SeqAt.readsAll_map ds its as hxs h4
      refine call_meets PySem.F.slot_list_count ⟨_, ho, rfl⟩ PySem.F.entry_list_count (PySem.F.args_list_count_2 _ _)
        (SeqAt.list_countAt a its.toArray n dd sls uy (fun u => PyData.eqv (SeqAt.readOf s.heap u) d)) ⟨ho, SeqAt.items_eqAt (vs := its.toArray) (show ReadsAll s.heap its.toArray.toList ds as from h4) r1 hxs hd hroom, ?_⟩
      have ec : (its.toArray.toList.countP fun u => PyData.eqv (SeqAt.readOf s.heap u) d) = ds.countP fun z => PyData.eqv z d := by
        rw [← hmap, List.countP_map]
        rfl
      rw [ec]
      exact ⟨.int (ds.countP fun z => PyData.eqv z d : Nat), H, I.tok _, ⟨_, rfl⟩, q⟩
theorem mt_idxD (hu : X.A.units + 64 < cLine) : MtR X "list.index" (rIdxD X.K) := by
  intro pins s σ H x xs v us Q I rx rxs h
  obtain ⟨a, y, d, ds, j, rfl, rfl, hl, hy, hok, hL, hj, q⟩ := h
  obtain ⟨hxs, hd, hdep⟩ := okLay_of hok
  cases rx
  cases rxs with
  | cons ry rt =>
    rename_i uy ut
    cases rt
    obtain ⟨bs, r1⟩ := Dp.reads I d y uy hy ry
    have hroom : X.A.units + 1 + min (PyData.depthAll ds) d.depth < cLine := by omega
    cases hl with
    | lst hs ha =>
      obtain ⟨its, rv, ⟨⟨cls, dd, data, sls⟩, n, ho, hc, hdn, hdt⟩, hlen⟩ := I.list hs
      simp only at hc hdt
      subst hc hdt
      obtain ⟨as, h4⟩ := Dp.readsAll I ds _ its ha rv
      have hn : its.length = ds.length := SeqAt.ReadsAll.length ds its as h4
      have hmap : its.map (SeqAt.readOf s.heap) = ds := SeqAt.readsAll_map ds its as hxs h4
      rw [List.findIdx?_eq_some_iff_getElem] at hj
      obtain ⟨hjd, hjy, hjn⟩ := hj
      have hjl : j < its.length := by omega
      have hja : j < its.toArray.size := by simpa using hjl
      have at_ : ∀ (m : Nat) (hm : m < its.toArray.size) (z' : D), ds[m]? = some z' → SeqAt.readOf s.heap its.toArray[m] = z' := by
        intro m hm z' hz'
        have hml : m < its.length := by simpa using hm
        rw [← hmap, List.getElem?_map, List.getElem?_eq_getElem hml] at hz'
        have e1 : SeqAt.readOf s.heap its[m] = z' := Option.some.inj (show some (SeqAt.readOf s.heap its[m]) = some z' from hz')
        simpa using e1
      have hsl := sizeLine_eq
      refine call_meets PySem.F.slot_list_index ⟨_, ho, rfl⟩ PySem.F.entry_list_index (PySem.F.args_list_index_2 _ _)
        (SeqAt.list_indexAt a its.toArray n dd sls uy (fun u => PyData.eqv (SeqAt.readOf s.heap u) d) j hja (by omega) ?_ ?_) ⟨ho, SeqAt.items_eqAt (vs := its.toArray) (show ReadsAll s.heap its.toArray.toList ds as from h4) r1 hxs hd hroom, ?_⟩
      · show PyData.eqv (SeqAt.readOf s.heap its.toArray[j]) d = true
        rw [at_ j hja _ (List.getElem?_eq_getElem hjd)]
        exact hjy
      · intro m hm hmj
        have hmd : m < ds.length := by omega
        show PyData.eqv (SeqAt.readOf s.heap its.toArray[m]) d = false
        rw [at_ m hm _ (List.getElem?_eq_getElem hmd)]
        simpa using hjn m hmj
      · exact ⟨.int (j : Nat), H, I.tok _, ⟨_, rfl⟩, q⟩
end
def dCount (f k : DD) : DE := fun env τ => bnd (f env τ) fun x τ1 => bnd (k env τ1) fun y τ2 => match x with
  | .list ds => if okLay ds y = true then some (.sh (.int (ds.countP fun z => PyData.eqv z y : Nat)), τ2) else none
  | _ => none
def dIndex (f k : DD) : DE := fun env τ => bnd (f env τ) fun x τ1 => bnd (k env τ1) fun y τ2 => match x with
  | .list ds => if okLay ds y = true ∧ ds.length ≤ 16777216 then match ds.findIdx? (fun z => PyData.eqv z y) with
    | some j => some (.sh (.int (j : Nat)), τ2)
    | none => none
    else none
  | _ => none
section
variable {X : Cx} {o e : Expr} {f k : DD} {apos cpos : Pos}
theorem jcount (hu : X.A.units + 64 < cLine) (ho : JR X o f) (he : JD X e k)
    (hbase : attributeBase o "count" X.env (eval o X.env) = eval o X.env := by rfl)
    (hfew : ((backTo cpos (starEach [e] X.env)).all (fun x => !x.1) && (backToKw cpos (keywordEach [] X.env)).all (fun x => x.1.isSome)
      && decide ([e].length + ([] : List Keyword).length + (if ([] : List Keyword).isEmpty then 0 else 1) < 30)) = true := by rfl)
    (hline : (apos.endLine == cpos.line) = true := by rfl) (hs : starEach [e] X.env = (false, eval e X.env) :: starEach [] X.env := by rfl) (hplain : (backTo cpos (starEach [] X.env)).any (·.1) = false := by rfl) :
    JV X (.Call (.Attribute o "count" apos) [e] [] cpos) (dCount f k) :=
  PEi (pe_bm PySem.F.plainAttrs_list PySem.F.slot_list_count PySem.F.type_list_count (mt_cntD hu) ho (pa_cons he pa_nil hs) hbase hfew hline hs hplain) fun σ H Q ⟨g, Hs, env, τ, v, τ', r, hf, q⟩ => by
    obtain ⟨x, τ1, h1, h2⟩ := bnd_eq hf
    obtain ⟨y, τ2, h3, h4⟩ := bnd_eq h2
    refine ⟨g, Hs, env, τ, x, τ1, r, h1, fun w Hs1 H1 u1 r1 => ?_⟩
    cases x with
    | list ds =>
      by_cases hok : okLay ds y = true
      · simp only [if_pos hok] at h4
        cases h4
        obtain ⟨p, xs, rfl, hH, hz, rp⟩ := r1.list u1.le
        refine ⟨.inl ⟨rfl, _, SqL.of hH⟩, g, Hs1, env, τ1, y, _, r.up u1, h3, fun w2 Hs2 H2 u2 r2 => ?_⟩
        exact ⟨p, w2, y, ds, rfl, rfl, (r1.up u2).dp u2.le, Rp.dp _ _ (r2.to u2.le), hok, q _ Hs2 H2 (u1.trans u2) (.int _) fun z => by cases z⟩
      · simp only [if_neg hok] at h4; cases h4
    | _ => cases h4
theorem jindex (hu : X.A.units + 64 < cLine) (ho : JR X o f) (he : JD X e k)
    (hbase : attributeBase o "index" X.env (eval o X.env) = eval o X.env := by rfl)
    (hfew : ((backTo cpos (starEach [e] X.env)).all (fun x => !x.1) && (backToKw cpos (keywordEach [] X.env)).all (fun x => x.1.isSome)
      && decide ([e].length + ([] : List Keyword).length + (if ([] : List Keyword).isEmpty then 0 else 1) < 30)) = true := by rfl)
    (hline : (apos.endLine == cpos.line) = true := by rfl) (hs : starEach [e] X.env = (false, eval e X.env) :: starEach [] X.env := by rfl) (hplain : (backTo cpos (starEach [] X.env)).any (·.1) = false := by rfl) :
    JV X (.Call (.Attribute o "index" apos) [e] [] cpos) (dIndex f k) :=
  PEi (pe_bm PySem.F.plainAttrs_list PySem.F.slot_list_index PySem.F.type_list_index (mt_idxD hu) ho (pa_cons he pa_nil hs) hbase hfew hline hs hplain) fun σ H Q ⟨g, Hs, env, τ, v, τ', r, hf, q⟩ => by
    obtain ⟨x, τ1, h1, h2⟩ := bnd_eq hf
    obtain ⟨y, τ2, h3, h4⟩ := bnd_eq h2
    refine ⟨g, Hs, env, τ, x, τ1, r, h1, fun w Hs1 H1 u1 r1 => ?_⟩
    cases x with
    | list ds =>
      by_cases hok : okLay ds y = true ∧ ds.length ≤ 16777216
      · cases hj : ds.findIdx? (fun z => PyData.eqv z y) with
        | none => simp only [if_pos hok, hj] at h4; cases h4
        | some j =>
          simp only [if_pos hok, hj] at h4
          cases h4
          obtain ⟨p, xs, rfl, hH, hz, rp⟩ := r1.list u1.le
          refine ⟨.inl ⟨rfl, _, SqL.of hH⟩, g, Hs1, env, τ1, y, _, r.up u1, h3, fun w2 Hs2 H2 u2 r2 => ?_⟩
          exact ⟨p, w2, y, ds, j, rfl, rfl, (r1.up u2).dp u2.le, Rp.dp _ _ (r2.to u2.le), hok.1, hok.2, hj, q _ Hs2 H2 (u1.trans u2) (.int _) fun z => by cases z⟩
      · simp only [if_neg hok] at h4; cases h4
    | _ => cases h4
end
end Pv
namespace Pv
open PySem L2 PySem.Spec PyProof.Rows
variable [Tbl]
theorem lc_core {vs is : List Nat} {b : DG} {c : DT} {e : DD} (his : ∀ i ∈ is, i ∈ vs) {g : G} {Hs1 H1 : Hp} {σ : Sl} {env : Ev} {τ1 τ' : Tp} {ds res : List D} {J : It} {Q : VK} (r1' : Rel g Hs1 H1 σ env τ1) (wk : WkE g Hs1 H1 J ds) (h3 : compL b c e ds (wipeE env vs) τ1 = some (res, τ')) (hlen : ds.length ≤ sizeLine)
    (q : ∀ w Hs' H', Up g Hs1 H1 Hs' H' τ' → RepV g.aT Hs' H' w (.ow res) → (∀ p, w = .ref p → H1 p = none) → Q w H') : tLc (fun _ H0 R => R J H0) (tG is b) (tB' c) (tD e) vs σ H1 Q := by
  obtain ⟨Gd, Y, w, wG, wY⟩ := wk
  show ∀ A, H1 A = none → _
  intro A hA
  have uz : Up g Hs1 H1 Hs1 H1 τ1 := .refl r1'.le r1'.tp
  have nT := uz.neT hA
  have hA1 := uz.freeS hA
  have r1 := r1'.wipe vs
  refine lc_it w (fun i H' => ∃ Hs' acc ys τi rest, Up g Hs1 H1 Hs' H' τi ∧ H' A = some (.lst acc) ∧ Hs' A = none ∧ Rps Hs' acc ys ∧ acc.length ≤ i ∧ compL b c e (ds.drop i) (wipeE env vs) τi = some (rest, τ') ∧ ys ++ rest = res)
    ⟨Hs1, [], [], τ1, res, uz.mk1 hA, upd_same, hA1, .nil, Nat.le_refl _, by rw [List.drop_zero]; exact h3, rfl⟩ (fun i H' _ ⟨Hs', acc, ys, τi, rest, u2, _⟩ => wG Hs' H' τi u2) (fun i x H2 H3 hi ⟨Hs2, acc, ys, τi, rest, u2, hacc, hA2, hr, hl, hc, hres⟩ hy => ?_) fun H' ⟨Hs2, acc, ys, τi, rest, u2, hacc, hA2, hr, hl, hc, hres⟩ => ?_
  · have hd : ds[i]? = some (ds[i]'hi) := List.getElem?_eq_getElem hi
    generalize ds[i]'hi = d at hd
    obtain ⟨Hs3, u3, rx⟩ := wY Hs2 H2 τi i x H3 d u2 hy hd
    have hacc3 := u3.h _ _ hacc nT rfl
    have hA3 : Hs3 A = none := by
      cases z : Hs3 A with
      | none => rfl
      | some o => rw [u3.f A o z hA2] at hacc; cases hacc
    rw [List.drop_eq_getElem_cons hi, show ds[i] = d from Option.some.inj ((List.getElem?_eq_getElem hi).symm.trans hd)] at hc
    have hc' : (match b d (wipeE env vs) with
      | none => none
      | some env1 => bnd (c env1 τi) fun k τ1 => if k = true then bnd (e env1 τ1) fun y τ2 => bnd (compL b c e (ds.drop (i + 1)) (wipeE env vs) τ2) fun ys τ3 => some (y :: ys, τ3) else compL b c e (ds.drop (i + 1)) (wipeE env vs) τ1) = some (rest, τ') := hc
    cases hb : b d (wipeE env vs) with
    | none => rw [hb] at hc'; cases hc'
    | some env1 =>
      rw [hb] at hc'
      obtain ⟨k, τ4, h5, h6⟩ := bnd_eq hc'
      have r3 : Rel g Hs3 H3 (wipe σ vs) (wipeE env vs) τi := (r1.up u2).up u3
      refine ⟨g, Hs3, wipeE env vs, τi, d, env1, r3, rx, hb, fun σ2 r4 t => ⟨?_, g, Hs3, env1, τi, k, τ4, r4, h5, fun Hs4 H4 u4 => ?_⟩⟩
      · rw [t.wipe his, wipe_wipe]
      · have hacc4 := u4.h _ _ hacc3 nT rfl
        have hA4 : Hs4 A = none := by
          cases z : Hs4 A with
          | none => rfl
          | some o => rw [u4.f A o z hA3] at hacc3; cases hacc3
        cases k with
        | false =>
          have h6 : compL b c e (ds.drop (i + 1)) (wipeE env vs) τ4 = some (rest, τ') := h6
          exact iteF ⟨Hs4, acc, ys, τ4, rest, (u2.trans u3).trans u4, hacc4, hA4, (hr.to u3.s).to u4.s, Nat.le_succ_of_le hl, h6, hres⟩
        | true =>
          obtain ⟨y, τ5, h7, h8⟩ := bnd_eq h6
          obtain ⟨ys', τ6, h9, h10⟩ := bnd_eq h8
          cases h10
          refine iteT ⟨g, Hs4, env1, τ4, y, τ5, r4.up u4, h7, fun wy Hs5 H5 u5 ry => ?_⟩
          have hacc5 := u5.h _ _ hacc4 nT rfl
          have hA5 : Hs5 A = none := by
            cases z : Hs5 A with
            | none => rfl
            | some o => rw [u5.f A o z hA4] at hacc4; cases hacc4
          have ut := ((u2.trans u3).trans u4).trans u5
          refine ⟨acc, hacc5, by omega, Hs5, acc ++ [wy], ys ++ [y], τ5, ys', ut.put hA hA5 nT hacc5 rfl, upd_same, hA5, (((hr.to u3.s).to u4.s).to u5.s).snoc ry, by rw [List.length_append]; show acc.length + 1 ≤ i + 1; omega, h9, by rw [List.append_assoc]; exact hres⟩
  · rw [List.drop_length] at hc
    cases hc
    rw [List.append_nil] at hres
    subst hres
    exact q _ Hs2 H' u2 ⟨A, acc, rfl, nT, hA2, hacc, by omega, hr⟩ fun p ep => by cases ep; exact hA
/-- the dict is put by while it is walked -/
def dCompM (i : Nat) (vs : List Nat) (b : DG) (c : DT) (e : DD) : DE := fun env τ => match env[i]? with
  | some (some (.dk kvs)) => if kvs.length ≤ 16777216 then bnd (compL b c e (kvs.map fun kv => dKey kv.1) (wipeE (env.set i none) vs) τ) fun ys τ2 => some (.ow ys, τ2) else none
  | _ => none
section
variable {X : Cx} {pos : Pos} {elt tg : Expr} {ifs : List Expr} {scope : Scope} {own : List (Str × Nat)} {is : List Nat} {b : DG} {c : DT} {e : DD} {x : Str} {px : Pos} {i : Nat}
theorem Rel.lockd {g : G} {Hs H : Hp} {σ : Sl} {env : Ev} {τ : Tp} {kvs : List (Key × D)} {p : Addr} {kv : List (Key × V)} {o : HO} (r : Rel g Hs H σ env τ) (he : env[i]? = some (some (.dk kvs))) (hσ : σ[i]? = some (some (.ref p))) (nT : p ≠ g.aT) (hn : Hs p = none) (hp : H p = some (.dK kv)) : Rel g Hs (upd H p o) σ (env.set i none) τ := by
  have nS : g.aS ≠ p := fun e => by subst e; rw [r.tp.s] at hn; cases hn
  have h0 : g.H0 p = none := r.ow i _ p he rfl hσ
  have r0 : Rel g Hs H σ (env.set i none) τ := r.drop (by rw [List.length_set]; exact r.ln) fun j v hj => by
    by_cases q : j = i
    · subst q
      rw [List.getElem?_set_self (by rw [← show env.length = _ from rfl]; exact (List.getElem?_eq_some_iff.mp he).1)] at hj
      cases hj
    · rw [List.getElem?_set_ne (fun z => q z.symm)] at hj
      exact ⟨hj, rfl⟩
  refine ⟨fun b q e => ?_, ⟨tabs_ne r.tp.tb hp rfl _, r.tp.tn, by rw [upd_ne nT.symm]; exact r.tp.h, r.tp.n, r.tp.s, r.tp.l⟩, r.ls, fun b q e n m => ?_, fun b h => r.bk b (upd_none h), r.fr, fun j v hj => ?_, r0.ow, r0.ap, r0.ln⟩
  · rw [upd_ne (ne_of_none e hn)]; exact r.le b q e
  · rw [upd_ne (ne_of_none e h0)]; exact r.bs b q e n m
  · obtain ⟨w, h1, h2⟩ := r0.sl j v hj
    refine ⟨w, h1, ?_⟩
    have hne : ∀ p2, w = .ref p2 → v.own = true → p2 ≠ p := fun p2 ew ho z => by
      subst z
      have hji : j ≠ i := fun z => by
        subst z
        rw [List.getElem?_set_self (by rw [← show env.length = _ from rfl]; exact (List.getElem?_eq_some_iff.mp he).1)] at hj
        cases hj
      rw [List.getElem?_set_ne (fun z => hji z.symm)] at hj
      exact hji (r.ap j i v _ p2 hj he ho rfl (by rw [h1, ew]) hσ)
    cases v with
    | sh d => exact h2
    | ow ds =>
      obtain ⟨p2, xs, e1, n, hn2, hp2, hl, hr⟩ := h2
      exact ⟨p2, xs, e1, n, hn2, by rw [upd_ne (hne p2 e1 rfl)]; exact hp2, hl, hr⟩
    | dk ks =>
      obtain ⟨p2, xs, e1, n, hn2, hp2, hr⟩ := h2
      exact ⟨p2, xs, e1, n, hn2, by rw [upd_ne (hne p2 e1 rfl)]; exact hp2, hr⟩
    | dt ks =>
      obtain ⟨p2, xs, e1, n, hn2, hp2, hr⟩ := h2
      exact ⟨p2, xs, e1, n, hn2, by rw [upd_ne (hne p2 e1 rfl)]; exact hp2, hr⟩
    | tp => exact h2
theorem jcompM (hN : X.N.Nodup) (ok : BlkOk X.N X.env.scope scope own)
    (hg : ∀ (s : Shared) (H : Hp) (C : Addr) (cl : List (Str × Addr)) (fp : List Addr), JG (X.blk s H scope (compEnvC scope cl C X.env) fp) tg is b)
    (ht : ∀ (s : Shared) (H : Hp) (C : Addr) (cl : List (Str × Addr)) (fp : List Addr), JTs (X.blk s H scope (compEnvC scope cl C X.env) fp) ifs c)
    (he : ∀ (s : Shared) (H : Hp) (C : Addr) (cl : List (Str × Addr)) (fp : List Addr), JD (X.blk s H scope (compEnvC scope cl C X.env) fp) elt e)
    (hi : X.N[i]? = some x := by rfl) (hv : Vis X.env.scope x := by first | exact Or.inl rfl | exact Or.inr (Or.inl rfl) | exact Or.inr (Or.inr rfl)) (hd : (x == ("__debug__" : Str)) = false := by decide) (hcd : (x == ("__classdict__" : Str)) = false := by decide)
    (his : ∀ i ∈ is, i ∈ own.map (·.2) := by decide) (hc : X.calm = true := by rfl) (hs : ∀ v, foldedSetIterable (.Name x px) X.env v = pure v := by intro _; rfl) : JV X (.ListComp elt [⟨tg, .Name x px, ifs, 0⟩] scope pos) (dCompM i (own.map (·.2)) b c e) :=
  PEi (pe_lock (pe_lc hc hN (pi_keys (pe_var (i := i) hi hv hd hcd)) ok hg ht he hs)) fun σ H Q ⟨g, Hs, env, τ, v, τ', r, hf, q⟩ => by
    unfold dCompM at hf
    split at hf
    · rename_i kvs henv
      split at hf
      · rename_i hkl
        obtain ⟨res, τ2, h3, h4⟩ := bnd_eq hf
        cases h4
        obtain ⟨w, hσ, p, kv, rfl, nT, hn, hp, hkv⟩ := r.sl i _ henv
        refine ⟨p, .dK kv, hp, trivial, fun od => ?_⟩
        have rL := r.lockd (o := .frz od (.dK kv)) henv hσ nT hn hp
        have hkeys : (kv.map fun kv => dKey kv.1) = kvs.map fun kv => dKey kv.1 := kps_keys hkv
        have hkl2 : kv.length = kvs.length := by have := congrArg List.length hkeys; simpa using this
        have wk : WkE g Hs (upd H p (.frz od (.dK kv))) (Itk p od kv) (kvs.map fun kv => dKey kv.1) := by
          refine ⟨_, _, by rw [List.length_map, ← hkl2]; exact walk_keys, fun Hs2 H2 τ2 u2 => u2.h _ _ upd_same nT rfl, fun Hs2 H2 τ2 j y H3 d u2 hy hd => ?_⟩
          obtain ⟨rfl, k, v, e1, rfl⟩ := hy
          rw [← hkeys, List.getElem?_map, e1] at hd
          cases hd
          exact ⟨Hs2, .refl u2.le u2.tp, rp_key k⟩
        have core := lc_core (b := b) (c := c) (e := e) (vs := own.map (·.2)) his rL wk h3 (by rw [List.length_map, line_eq]; exact hkl) (Q := fun w' H' => H' p = some (.frz od (.dK kv)) ∧ Q w' (upd H' p (.dK kv))) fun w' Hs' H' u rv fr => by
          have hpk := u.h _ _ upd_same nT rfl
          refine ⟨hpk, q w' Hs' (upd H' p (.dK kv)) ?_ ?_ fun _ p2 e2 => ?_⟩
          · have hsn : Hs' p = none := by
              cases z : Hs' p with
              | none => rfl
              | some o => have := u.f p o z hn; rw [upd_same] at this; cases this
            refine ⟨u.s, fun b o e n m => ?_, fun b h => ?_, fun b o e n => ?_, fun b o e => ?_, ⟨tabs_ne u.tp.tb hpk rfl _, u.tp.tn, by rw [upd_ne nT.symm]; exact u.tp.h, u.tp.n, u.tp.s, u.tp.l⟩⟩
            · by_cases z : b = p
              · subst z; rw [hp] at e; cases e; rw [upd_same]
              · rw [upd_ne z]; exact u.h b o (by rw [upd_ne z]; exact e) n m
            · exact upd_none (u.k b (upd_none h))
            · have := u.f b o e n
              by_cases z : b = p
              · subst z; rw [upd_same] at this; cases this
              · rw [upd_ne z] at this; exact this
            · rw [upd_ne (ne_of_none e hsn)]; exact u.le b o e
          · obtain ⟨p2, xs, e1, n2, hn2, hp2, hl2, hr2⟩ := rv
            have hne : p2 ≠ p := fun z => by subst z; rw [hpk] at hp2; cases hp2
            exact ⟨p2, xs, e1, n2, hn2, by rw [upd_ne hne]; exact hp2, hl2, hr2⟩
          · have := fr p2 e2
            by_cases z : p2 = p
            · subst z; rw [upd_same] at this; cases this
            · rw [upd_ne z] at this; exact this
        exact ⟨_, hσ, p, od, rfl, .inl ⟨kv, upd_same, core⟩⟩
      · cases hf
    · cases hf
end
end Pv
namespace Pv
open PySem L2 PySem.Spec PyProof.Rows
variable [Tbl]
/-- the def of that name takes these words, in their order -/
def KwOk (K : PySem.W.Frag) (mg : Str → Option Value) (x : Str) (ks : List Str) : Prop := ∃ f, mg x = some (.ref f) ∧ ∀ fd o, K.lookup f = some o → o.data = .func fd →
  argN fd = ks ∧ ∀ ws : List Value, ws.length = ks.length → bindArgs fd ⟨[], ks.zip ws⟩ = pure (ks.zip ws)
abbrev JKs (X : Cx) (kws : List Keyword) (f : DV) : Prop := PK X kws (tVs f)
section
variable {X : Cx} {e : Expr} {kws : List Keyword} {nm : Option Str} {kpos p pos : Pos} {x : Str} {ks : List Str} {k np : Nat} {F : Cal}
theorem PKi {t t' : TA} (h : PK X kws t) (i : ∀ σ H Q, t' σ H Q → t σ H Q) : PK X kws t' := ⟨fun pos pins s σ H Q I k => h.run pos pins s σ H Q I (i σ H Q k)⟩
theorem jks_nil : JKs X [] vNil := PKi pk_nil fun σ H Q ⟨g, Hs, env, τ, d, τ', r, hf, q⟩ => by
  cases hf
  exact q [] Hs H (.refl r.le r.tp) .nil (fun v h => by cases h)
theorem jks_cons {f : DD} {k : DV} (he : JD X e f) (hk : JKs X kws k) : JKs X (⟨nm, e, kpos⟩ :: kws) (vCons f k) :=
  PKi (pk_cons he hk) fun σ H Q ⟨g, Hs, env, τ, ds, τ', r, hf, q⟩ => by
    obtain ⟨x, τ1, h1, h2⟩ := bnd_eq hf
    obtain ⟨xs, τ2, h3, h4⟩ := bnd_eq h2
    cases h4
    refine ⟨g, Hs, env, τ, x, τ1, r, h1, fun w Hs1 H1 u1 r1 => ?_⟩
    refine ⟨g, Hs1, env, τ1, xs, τ', r.up u1, h3, fun ws Hs2 H2 u2 r2 no => ?_⟩
    refine q (w :: ws) Hs2 H2 (u1.trans u2) (.cons (r1.to u2.s) r2) fun v hv => ?_
    rcases List.mem_cons.mp hv with rfl | hv
    · rfl
    · exact no v hv
theorem jcallKw {kv : DV} (hw : KwOk X.K X.mg x ks) (h : Has X.prog X.w X.K X.mg X.base k x np F) (hr : Room k X.A) (ha : JKs X kws kv) (hg : Gl X x := by rfl) (hdb : (x == ("__debug__" : Str)) = false := by decide)
    (hall : (backToKw pos (keywordEach kws X.env)).all (·.1.isSome) = true := by rfl) (hks : (backToKw pos (keywordEach kws X.env)).filterMap (·.1) = ks := by rfl)
    (hpl : ((backTo pos (starEach [] X.env)).any (·.1) || (backToKw pos (keywordEach kws X.env)).any (·.1.isNone)) = false := by rfl) :
    JV X (.Call (.Name x p) [] kws pos) (dDef F kv) := by
  obtain ⟨f, fd, ps, hm, hk, hb, hn, G, ⟨o, lk, od⟩, hp⟩ := h
  obtain ⟨f', hm', kw⟩ := hw
  have ef : f' = f := by
    have := hm'.symm.trans hm
    cases this; rfl
  subst ef
  obtain ⟨k1, k2⟩ := kw fd o lk od
  have ek : ps = ks := hp.trans k1
  subst ek
  refine ⟨fun pins s σ H Q I hq => ?_⟩
  refine wpAny_Call_Name_kw (ld_glob I hg hm ?_ hdb)
  refine PySem.W.callWith_KW0 (h₀ := X.base) I.ok.mod.kin hk hall ?_ hpl
  obtain ⟨g, Hs, env, τ, v, τ', r, hf, q⟩ := hq
  obtain ⟨as, τ1, h1, h2⟩ := bnd_eq hf
  refine thn (ha.run pos pins s σ H (fun ws H1 => spF F ws H1 Q E0) I ⟨g, Hs, env, τ, as, τ1, r, h1, fun ws Hs1 H1 u1 rv no => ?_⟩) fun ws s2 ⟨zs, H2, I2, rz, q2⟩ => ⟨I2.kIn, ?_⟩
  · exact ⟨g, Hs1, τ1, as, v, τ', u1.le, u1.tp, rv, no, h2, fun w Hs2 H2 u2 rw' fr => q w Hs2 H2 (u1.trans u2) rw' fun ho p ep => u1.old (fr ho p ep)⟩
  · rw [hks]
    have hl : ws.length = ps.length := by rw [← rz.length]; exact G.len _ _ _ _ q2
    refine wpAny_call (codeAny_mono (G.run X.A X.stack s2 H2 ⟨[], ps.zip ws⟩ ws zs Q E0 hr I2.env0 (BindsTo.of_eq (k2 ws hl)) rz q2) fun r s' hq => ?_)
    cases r with
    | error e => exact pass0 pins σ H2 s2 e s' I2 hq
    | ok fl =>
      cases fl with
      | ret u => exact I2.after hq
      | next => exact False.elim hq
      | brk => exact False.elim hq
      | cont => exact False.elim hq
end
theorem kw_mk {K : PySem.W.Frag} {mg : Str → Option Value} {x : Str} {st : Stmt} {ks : List Str} {f : Addr} {h : Heap} {oc : Value} {od an : Option Addr} {osl : Array (Option Value)} {kV doc pm cdv ct : Value} (X : K.In h) (G : h.Ns mainGlobals mg) (a : PySem.W.nsIn K mainGlobals x = some (some (.ref f)))
    (l : K.lookup f = some ⟨oc, od, .func (PySem.W.fnOf x x (defArgs st) (defBody st) (defScope st) .none kV doc pm an cdv ct), osl⟩) (hp : (defArgs st).args.map (·.arg) = ks)
    (hb : ∀ (kV doc pm : Value) (an : Option Addr) (cdv ct : Value) (ws : List Value), ws.length = ks.length → bindArgs (PySem.W.fnOf x x (defArgs st) (defBody st) (defScope st) .none kV doc pm an cdv ct) ⟨[], ks.zip ws⟩ = pure (ks.zip ws)) : KwOk K mg x ks :=
  ⟨f, PySem.W.mg_of X G a, fun fd o e1 e2 => by
    have := l.symm.trans e1
    cases this
    cases e2
    exact ⟨hp, hb kV doc pm an cdv ct⟩⟩
end Pv
namespace Pv
open PySem L2 PySem.Spec PyProof.Rows
variable [Tbl]
section
variable {prog : Program} {w : World} {A : Around} {E : Value → Shared → Prop} {s : Shared}
/-- sorted(x, key=f): what x's walk gives, sorted by the key -/
theorem sorted_colK {R : Value → D → Prop} {l f : Addr} {vs : List Value} {bs : List D} {k : D → D} {Q : Value → Shared → Prop}
    (hcol : ∀ (E' : Value → Shared → Prop) (Q' : List Value → Shared → Prop), (∀ h' tk, (∀ b o, s.heap.get? b = some o → h'.get? b = some o) → Q' vs { s with heap := h', toks := tk }) → wpAny (model prog w) A.in1 (collect (.ref l)) Q' E' s)
    (hL : vs.length ≤ sizeLine) (e : W.EachIs R vs bs) (hal : W.AllAlike (bs.map k)) (hk : W.Sortable (bs.map k)) (hu : ∀ b, b ∈ bs → A.units + 2 + (k b).depth < cLine)
    (turn : ∀ (v : Value) (x : D), R v x → x ∈ bs → ∀ (h : Heap) (tk : Nat), (∀ b o, s.heap.get? b = some o → h.get? b = some o) → wpAny (model prog w) A.in1.in1 (call (.ref f) [v]) (W.KeyPure (k x) { s with heap := h, toks := tk }) (fun _ _ => False) { s with heap := h, toks := tk })
    (h : ∀ (out : List Value) (n : Nat) (h1 h' : Heap) (tk : Nat), (∀ b o, s.heap.get? b = some o → h1.get? b = some o) → (∀ b o, h1.get? b = some o → h'.get? b = some o) → h'.get? h1.objs.size = some { cls := .type "list", data := .seq out.toArray n } → W.EachIs R out (bs.mergeSort (W.dataLe false k)) → Q (.ref h1.objs.size) { s with heap := h', toks := tk }) :
    wpAny (model prog w) A (call (.builtin "sorted") [.ref l] [(Str.ofString "key", .ref f)]) Q E s := by
  refine call_function_entry_kw kind_sorted plain_sorted entry_sorted (ksk_s1 _ _) ?_
  unfold Builtin.«sorted»
  refine wpAny_bind (m := checkCount "sorted" 1 1 _) (wpAny_pure ?_)
  refine wpAny_bind (hcol _ _ fun h1 tk1 k1 => ?_)
  refine wpAny_bind (wpAny_newList ?_ hL)
  have hp0 : (h1.push { cls := .type "list", data := .seq vs.toArray }).get? h1.objs.size = some (seqObj "list" vs.toArray 0) := Heap.get?_push_size _ rfl
  have k2 : ∀ b o, h1.get? b = some o → (h1.push { cls := .type "list", data := .seq vs.toArray }).get? b = some o := fun b o q => Heap.get?_push_of_some _ q
  have k3 : ∀ {g : Heap}, W.KeepsBut h1.objs.size (h1.push { cls := .type "list", data := .seq vs.toArray }) g → ∀ b o, h1.get? b = some o → g.get? b = some o := fun {g} kp b o q => kp b o (Nat.ne_of_lt (Heap.lt_size q)) (k2 b o q)
  refine wpAny_bind (wpAny_holding (W.list_sort_key_data (R := R) k hp0 e hal hk (by rw [← e.length]; exact hL) (fun b hb => ?_) (ksk_l1 _ _) (ksk_t1 _ _) (fun v x r hx g tk kp => ?_) fun out c g tk kp hD _ eo => ?_))
  · exact Nat.lt_of_le_of_lt (by show A.in1.units + 1 + (k b).depth ≤ A.units + 2 + (k b).depth; exact Nat.add_le_add_right (Nat.le_refl (A.units + 1 + 1)) _) (hu b hb)
  · exact turn v x r hx g tk fun b o q => k3 kp b o (k1 b o q)
  · exact wpAny_pure ⟨_, rfl, h out c h1 g tk k1 (k3 kp) hD eo⟩
/-! ### a lambda's turn -/
/-- an expression that keeps all objects and gives what P says -/
def EvP (prog : Program) (w : World) (A : Around) (env : PySem.Env) (s : Shared) (e : Expr) (P : Value → Heap → Prop) : Prop := ∀ (h : Heap) (tk : Nat), (∀ b o, s.heap.get? b = some o → h.get? b = some o) →
  wpAny (model prog w) A (eval e env) (fun u s' => ∃ h' tk', s' = { s with heap := h', toks := tk' } ∧ (∀ b o, h.get? b = some o → h'.get? b = some o) ∧ P u h') (fun _ _ => False) { s with heap := h, toks := tk }
variable {env : PySem.Env}
/-- no thing within -/
def scD : D → Bool
  | .list _ => false | .tuple _ => false | .dict _ => false
  | _ => true
theorem reads_sca {h : Heap} {u : Value} {d : D} {as : List Addr} (hd : scD d = true) (r : Reads h u d as) : as = [] := by
  cases d <;> first | (cases r; rfl) | cases hd
/-- x[j], x a tuple -/
theorem ev_ix {x : Str} {v : Value} {p p2 pos : Pos} {j kd : Nat} {ds : List D} {d : D} {as : List Addr} {m : Str → Option Value} (hk : env.scope.kind = .function) (hl : env.kindOf x = some .local) (hn : s.heap.Ns env.locals m) (hv : m x = some v)
    (r : Reads s.heap v (.tuple ds) as) (hj : ds[j]? = some d) (hj2 : j < 1000) (hd : (x == ("__debug__" : Str)) = false := by decide) : EvP prog w A env s (.Subscript (.Name x p) (.Constant (.int (j : Int)) kd p2) pos) fun u h => ∃ as, Reads h u d as := by
  intro h tk ke
  have r' := PyProof.Rows.Reads.keeps ke r
  refine wpAny_Subscript_Constant_late (wpAny_Name (wpAny_loadName_local (s := { s with heap := h, toks := tk }) hk hl (hn.keeps ke) hv (wpAny_Constant_int ?_)) hd)
  cases r' with
  | @tuple a o vs n _ _ h1 h2 h3 h4 =>
    have ht : IsTup h a vs := ⟨o, h1, h2, n, h3⟩
    have go : ∀ {us : List Value} {es : List D} {bs : List Addr} {i : Nat} {y : D}, ReadsAll h us es bs → es[i]? = some y → ∃ u cs, us[i]? = some u ∧ Reads h u y cs := by
      intro us es bs i y hh
      induction i generalizing us es bs with
      | zero =>
        intro e
        cases hh with
        | nil => simp at e
        | cons a b => simp at e; subst e; exact ⟨_, _, rfl, a⟩
      | succ i ih =>
        intro e
        cases hh with
        | nil => simp at e
        | cons a b => exact ih b (by simpa using e)
    obtain ⟨u, cs, hu, hr⟩ := go h4 hj
    have hlt : j < vs.size := by
      have := (List.getElem?_eq_some_iff.mp hu).1
      simpa using this
    refine ⟨"tuple", _, slot_tuple_getitem.lookup, IsTup.typeIs (s := { s with heap := h, toks := tk + 1 }) ht, getItem_tuple (s := { s with heap := h, toks := tk + 1 }) (j := j) (x := u) ht (by omega) (by omega) (by unfold seqIndex?; simp; omega) (by rw [← hu]; simp) ⟨h, tk + 1, rfl, fun _ _ e => e, cs, hr⟩⟩
/-- -e -/
theorem ev_neg {e : Expr} {pos : Pos} {i : Int} (he : EvP prog w A env s e fun u h => ∃ as, Reads h u (.int i) as) : EvP prog w A env s (.UnaryOp .USub e pos) fun u h => ∃ as, Reads h u (.int (-i)) as := by
  intro h tk ke
  refine wpAny_UnaryOp (wpAny_mono (he h tk ke) (fun u s' z => ?_) fun _ _ z => z)
  obtain ⟨h', tk', rfl, k', as, r⟩ := z
  cases r
  exact neg_int ⟨h', _, rfl, k', [], .int _ _⟩
/-- (e, e') -/
theorem ev_tup2 {e e' : Expr} {c : Nat} {pos : Pos} {d d' : D} (hd : scD d = true) (hd' : scD d' = true) (he : EvP prog w A env s e fun u h => ∃ as, Reads h u d as) (he' : EvP prog w A env s e' fun u h => ∃ as, Reads h u d' as)
    (h1 : starEach [e, e'] env = [(false, eval e env), (false, eval e' env)]) : EvP prog w A env s (.Tuple [e, e'] c pos) fun u h => Reads h u (.tuple [d, d']) [] := by
  intro h tk ke
  refine wpAny_Tuple_spliced ?_
  rw [h1]
  show wpAny _ _ (spliced [(false, eval e env), (false, eval e' env)]) _ _ _
  refine Calls.spliced_cons (wpAny_mono (he h tk ke) (fun u s' z => ?_) fun _ _ z => z)
  obtain ⟨h', tk', rfl, k', as, r⟩ := z
  refine Calls.spliced_cons (wpAny_mono (he' h' tk' fun b o q => k' b o (ke b o q)) (fun u' s' z => ?_) fun _ _ z => z)
  obtain ⟨h2, tk2, rfl, k2, as', r'⟩ := z
  refine Calls.spliced_nil ⟨by show 2 ≤ sizeLine; decide, h2.push { cls := .type "tuple", data := .seq [u, u'].toArray }, tk2, rfl, fun b o q => Heap.get?_push_of_some _ (k2 b o (k' b o q)), ?_⟩
  have e1 := reads_sca hd r
  have e2 := reads_sca hd' r'
  subst e1; subst e2
  have kk : ∀ b o, h2.get? b = some o → (h2.push { cls := .type "tuple", data := .seq [u, u'].toArray }).get? b = some o := fun b o q => Heap.get?_push_of_some _ q
  have ra : ReadsAll (h2.push { cls := .type "tuple", data := .seq [u, u'].toArray }) [u, u'] [d, d'] ([] ++ ([] ++ [])) := .cons (PyProof.Rows.Reads.keeps (fun b o q => kk b o (k2 b o q)) r) (.cons (PyProof.Rows.Reads.keeps kk r') .nil)
  exact .tuple (Heap.get?_push_size _ rfl) rfl rfl (by simpa using ra)
/-- f(v), f a lambda -/
theorem lam_turn {f c' : Addr} {qual x : Str} {params : Arguments} {body : Expr} {scope : Scope} {pm ctv v : Value} {k : D} (ho : s.heap.get? f = some (PySem.W.kla_obj "<lambda>" qual params body scope [] pm c' ctv)) (hcd : s.heap.CodeRec (.ref c') qual) (hroom : A.depth < recursionLimit) (hlim : s.heap.NoLimit)
    (hbind : bindArgs (PySem.W.kla_fn "<lambda>" qual params body scope [] pm (.ref c') ctv) ⟨[v], []⟩ = pure [(x, v)]) (hloc : scope.names.lookup x = some .local) (hco : scope.isCoroutine = false) (hgen : scope.isGenerator = false) (hk : scope.kind = .function) (hcell : ∀ x ∈ scope.names, x.2 ≠ .cell)
    (hbody : ∀ (A : Around) (L : Addr) (s' : Shared), (∀ b o, s.heap.get? b = some o → s'.heap.get? b = some o) → s'.heap.Ns L (fun y => [(x, v)].reverse.lookup y) → EvP prog w A (PySem.W.envX qual scope L f (.ref c') []) s' body fun u h => Reads h u k []) :
    wpAny (model prog w) A (call (.ref f) [v]) (W.KeyPure k s) (fun _ _ => False) s := by
  refine wpAny_call ?_
  refine PySem.W.kla_callFunE hroom ho rfl hco hgen rfl hcd ?_
  rw [hbind]
  refine wpAny_pure (wpAny_newFunctionEnv hcell (fun y hy => by rw [List.mem_singleton.mp hy]; exact hloc) (fun h₁ hns hsb => ⟨hlim.fresh _ hsb, ?_⟩) hk)
  have hk₁ : ∀ b o, s.heap.get? b = some o → h₁.get? b = some o := fun b o e => hsb.extBut b o (Nat.ne_of_lt (Heap.lt_size e)) (Heap.get?_push_of_some _ e)
  refine PySem.W.kla_codeExpr (wpAny_mono (hbody _ _ { s with heap := h₁, toks := s.toks + 1 } hk₁ hns h₁ (s.toks + 1) fun _ _ e => e) (fun u s' z => ?_) fun _ _ z => z.elim)
  obtain ⟨h', tk', rfl, k', r⟩ := z
  exact ⟨h', tk', rfl, fun b o q => k' b o (hk₁ b o q), r⟩
end
end Pv
namespace Pv
open PySem L2 PySem.Spec PyProof.Rows
variable [Tbl]
section
variable {X : Cx} {pins : List (Addr × Obj)} {σ : L2.St} {H : Hp} {s : Shared}
/-- what holds after a lambda came into being -/
structure Made1 (X : Cx) (pins : List (Addr × Obj)) (σ : L2.St) (H H1 : Hp) (s1 : Shared) (f c P : Addr) (q : Str) (params : Arguments) (body : Expr) (scope : Scope) : Prop where
  inv : Inv X pins σ H1 s1
  old : ∀ b o, H b = some o → b ≠ P → H1 b = some o
  tbl : ∃ ps, H P = some (.tbl ps)
  non : ∀ b, H1 b = none → H b = none
  tab : LamX.Tabs Tbl.T H1
  obj : ∃ pm ct, s1.heap.get? f = some (PySem.W.kla_obj "<lambda>" q params body scope [] pm c ct)
  crc : s1.heap.CodeRec (.ref c) q
theorem lam_mk {c P : Addr} {params : Arguments} {body : Expr} {scope : Scope} {pos : Pos} {E Q : Value → Shared → Prop} (iv : Inv X pins σ H s) (tb : LamX.TabB X.base X.mg c P) (cd : X.env.code = .ref c)
    (inT : (P, X.env.qual ++ "<lambda>") ∈ Tbl.T) (uq : ∀ p ∈ Tbl.T, p.1 = P → p.2 = X.env.qual ++ "<lambda>") (tabs : LamX.Tabs Tbl.T H) (df : defaultsOf params X.env = ([], [])) (cl : closureFor scope X.env = pure [])
    (q : ∀ f c' H1 s1, Made1 X pins σ H H1 s1 f c' P (X.env.qual ++ "<lambda>") params body scope → Q (.ref f) s1) : wpAny (model X.prog X.w) X.A (eval (.Lambda params body scope pos) X.env) Q E s := by
  obtain ⟨ps, hP, tr, am⟩ := tabs _ inT
  have inst : s.heap.get? P = some { cls := .none, data := .fields ps } := iv.hok P _ hP
  have mg1 := iv.mod.glob.keeps iv.bk
  have cd1 := tb.code.keeps iv.bk
  have bm1 := tb.bm.keeps iv.bk
  refine PySem.W.kla_eval df ?_
  match hf : codeAmong pos ps.toList with
  | some cv =>
    obtain ⟨c0, rfl, hc0⟩ := am pos cv hf
    refine PySem.W.kla_makeFunctionHit cl iv.ok.glob mg1 cd cd1 inst tr hf bm1 fun ct h1 tk k1 _ => ?_
    have k2 : ∀ b o, s.heap.get? b = some o → (h1.push (PySem.W.kla_obj "<lambda>" (X.env.qual ++ "<lambda>") params body scope [] ((X.mg "__name__").getD .none) c0 ct)).get? b = some o := fun b o e => Heap.get?_push_of_some _ (k1 b o e)
    obtain ⟨⟨oc, vs, t, w1, w2, w3⟩, _, _⟩ := iv.hok c0 _ hc0
    exact q _ c0 H _ ⟨iv.kept k2, fun _ _ e _ => e, ⟨ps, hP⟩, fun _ e => e, tabs, ⟨_, ct, Heap.get?_push_size _ rfl⟩, c0, oc, vs, t, rfl, k2 _ _ w1, w2, w3⟩
  | none =>
    refine PySem.W.kla_makeFunction cl iv.ok.glob mg1 cd cd1 inst tr hf tb.gP bm1 fun c0 ct h1 tk k1 ge lt rc tbl => ?_
    obtain ⟨c1, oc, vs, t, e1, w1, w2, w3⟩ := rc
    cases e1
    have fresh : H c0 = none := iv.hok.fresh ge
    have cP : c0 ≠ P := fun e => by rw [e, hP] at fresh; cases fresh
    have J := LamX.inv_table (t' := tk) (c := c0) (q := X.env.qual ++ "<lambda>") (more := #[rawInt pos.line, rawInt pos.col, .ref c0]) (h' := h1.push (PySem.W.kla_obj "<lambda>" (X.env.qual ++ "<lambda>") params body scope [] ((X.mg "__name__").getD .none) c0 ct)) iv hP (fun b o nb e => Heap.get?_push_of_some _ (k1 b o nb e)) (Heap.get?_push_of_some _ tbl) ge ⟨oc, vs, t, Heap.get?_push_of_some _ w1, w2, w3⟩
    have at_ : ∀ b, b ≠ c0 → b ≠ P → upd (upd H P (.tbl (ps ++ #[rawInt pos.line, rawInt pos.col, .ref c0]))) c0 (LamX.CodeO c0 (X.env.qual ++ "<lambda>")) b = H b := fun b n1 n2 => by rw [upd_ne n1, upd_ne n2]
    have stay : ∀ b o, H b = some o → b ≠ P → upd (upd H P (.tbl (ps ++ #[rawInt pos.line, rawInt pos.col, .ref c0]))) c0 (LamX.CodeO c0 (X.env.qual ++ "<lambda>")) b = some o := fun b o e n => by
      rw [at_ b (fun z => by rw [z, fresh] at e; cases e) n]
      exact e
    refine q _ c0 _ _ ⟨J, stay, ⟨ps, hP⟩, fun b e => upd_none (upd_none e), fun p hp => ?_, ⟨_, ct, Heap.get?_push_size _ rfl⟩, c0, oc, vs, t, rfl, Heap.get?_push_of_some _ w1, w2, w3⟩
    by_cases z : p.1 = P
    · refine ⟨_, by rw [z, upd_ne cP.symm, upd_same], ?_, fun p2 cv e => ?_⟩
      · have := PySem.TriplesOk_snoc pos.line pos.col (.ref c0) ps.toList tr
        simpa using this
      · rw [uq p hp z]
        have e : codeAmong p2 (ps.toList ++ [rawInt pos.line, rawInt pos.col, .ref c0]) = some cv := by simpa using e
        rcases LamX.among_app _ tr e with y | y
        · obtain ⟨c2, r1, r2⟩ := am p2 cv y
          exact ⟨c2, r1, stay _ _ r2 (fun z => by rw [z, hP] at r2; cases r2)⟩
        · exact ⟨c0, y, upd_same⟩
    · obtain ⟨ps2, r1, r2, r3⟩ := tabs p hp
      refine ⟨ps2, by rw [at_ _ (fun y => by rw [y, fresh] at r1; cases r1) z]; exact r1, r2, fun p2 cv e => ?_⟩
      obtain ⟨c2, u1, u2⟩ := r3 p2 cv e
      exact ⟨c2, u1, stay _ _ u2 (fun z => by rw [z, hP] at u2; cases u2)⟩
/-- the state's relation goes along -/
theorem Made1.up {g : G} {Hs H1 : Hp} {s1 : Shared} {f c P : Addr} {q : Str} {params : Arguments} {body : Expr} {scope : Scope} {τ : Tp} (M : Made1 X pins σ H H1 s1 f c P q params body scope) (le : Same Hs H) (tp : TpOk g Hs H τ) (inT : (P, q) ∈ Tbl.T) : Up g Hs H Hs H1 τ := by
  obtain ⟨ps, hP⟩ := M.tbl
  have le2 : Same Hs H1 := fun b o e => M.old b o (le b o e) fun z => by rw [z] at e; rw [tp.tn _ inT] at e; cases e
  refine ⟨.refl _, fun b o e _ n => M.old b o e fun z => ?_, M.non, fun b o e n => ?_, le2, M.tab, tp.tn, M.old _ _ tp.h fun z => ?_, tp.n, tp.s, tp.l⟩
  · rw [z, hP] at e; cases e; cases n
  · rw [n] at e; cases e
  · have := tp.h
    rw [z, hP] at this; cases this
end
/-! ### sorted by a lambda -/
/-- the names that a lambda finds beside its own -/
structure GlobOk (mg : Str → Option Value) (h : Heap) : Prop where
  g : h.Ns mainGlobals mg
  b : ∃ mb, h.Ns builtinsNs mb ∧ ∀ x : Str, x ≠ "__name__" → mb x = bootBuiltins x
/-- a lambda of one parameter whose value is reckoned by kf -/
structure LamOk (mg : Str → Option Value) (params : Arguments) (body : Expr) (scope : Scope) (x : Str) (kf : D → Option D) : Prop where
  bind : ∀ (qual : Str) (pm ctv v : Value) (c' : Addr), bindArgs (PySem.W.kla_fn "<lambda>" qual params body scope [] pm (.ref c') ctv) ⟨[v], []⟩ = pure [(x, v)]
  loc : scope.names.lookup x = some .local
  co : scope.isCoroutine = false
  gen : scope.isGenerator = false
  kind : scope.kind = .function
  cell : ∀ x ∈ scope.names, x.2 ≠ .cell
  ev : ∀ (prog : Program) (w : World) (A : Around) (qual : Str) (L f c' : Addr) (s : Shared) (v : Value) (d k : D) (as : List Addr), GlobOk mg s.heap → Reads s.heap v d as → kf d = some k → s.heap.Ns L (fun y => [(x, v)].reverse.lookup y) → EvP prog w A (PySem.W.envX qual scope L f (.ref c') []) s body fun u h => Reads h u k []
def kTot (kf : D → Option D) (d : D) : D := (kf d).getD .none
def srtK (kf : D → Option D) (ds : List D) : Option (List D) := if ((ds.all fun d => (kf d).isSome) && srtOk (ds.map (kTot kf))) = true then some (msF (W.dataLe false (kTot kf)) ds.length ds) else none
def dSortK (kf : D → Option D) (k : DD) : DE := fun env τ => bnd (k env τ) fun d τ1 => match d with
  | .list ds => (srtK kf ds).map fun r => (.ow r, τ1)
  | .tuple ds => (srtK kf ds).map fun r => (.ow r, τ1)
  | _ => none
theorem each_and {α β : Type} {R S : α → β → Prop} {as : List α} {bs : List β} (h : W.EachIs R as bs) (k : W.EachIs S as bs) : W.EachIs (fun a b => R a b ∧ S a b) as bs := each_two h k
section
variable {X : Cx}
theorem sortK_run {pins : List (Addr × Obj)} {s : Shared} {σ : L2.St} {H : Hp} {Q : VK} {f c' a : Addr} {q x : Str} {params : Arguments} {body : Expr} {scope : Scope} {kf : D → Option D} {kk : Nat} {R : V → D → Prop} {xs : List V} {ds rs : List D} {pm ct : Value}
    (hu : X.A.units + 64 < cLine) (hr : Room kk X.A) (L : LamOk X.mg params body scope x kf) (I : Inv X pins σ H s) (ho : s.heap.get? f = some (PySem.W.kla_obj "<lambda>" q params body scope [] pm c' ct)) (hcr : s.heap.CodeRec (.ref c') q)
    (hs : SqL X.K H a xs ∨ SqT X.K H a xs) (hK : DpAll X.K H xs ds) (hl : xs.length ≤ sizeLine) (hR : Paired R xs ds) (hk : srtK kf ds = some rs) (q : ∀ (p : Addr) (out : List V), H p = none → Paired R out rs → Q (.ref p) (upd H p (.lst out))) :
    wpAny (model X.prog X.w) X.A (call (.builtin "sorted") [.ref a] [(Str.ofString "key", .ref f)]) (EP X pins σ Q) X.xe s := by
  unfold srtK at hk
  split at hk
  · rename_i hc
    cases hk
    rw [Bool.and_eq_true] at hc
    obtain ⟨hall, hok⟩ := hc
    unfold srtOk at hok
    rw [Bool.and_eq_true, Bool.and_eq_true] at hok
    obtain ⟨⟨h1, h2⟩, h3⟩ := hok
    have h3 := of_decide_eq_true h3
    have gl : GlobOk X.mg s.heap := ⟨I.mod.glob.keeps I.bk, let ⟨mb, e1, e2⟩ := I.mod.blt; ⟨mb, e1.keeps I.bk, e2⟩⟩
    have core : ∀ (its : List Value) (o : Obj) (T : String) (n : Nat), T = "list" ∨ T = "tuple" → Vals xs its → s.heap.get? a = some o → o.cls = .type T → o.data = .seq its.toArray n → wpAny (model X.prog X.w) X.A (call (.builtin "sorted") [.ref a] [(Str.ofString "key", .ref f)]) (EP X pins σ Q) X.xe s := by
      intro its o T n hT rv hoa hca hd
      have hlen := rv.length
      obtain ⟨as, hrd⟩ := L2.Dp.readsAll I _ _ its hK rv
      refine sorted_colK (k := kTot kf) (fun E' Q' hQ' => wpAny_collect_seq a hT hoa hca hd (fun h' kx => ?_) (by rw [List.size_toArray, ← hlen]; exact hl)) (by rw [← hlen]; exact hl) (each_and (vals_each rv hR) (reads_each hrd)) (allk_of h1) (sbl_of h2) (fun b hb => ?_) (fun v d hv hd g tk kp => ?_) fun out n' g1 g2 tk k1 k2 hp eo => ?_
      · have := hQ' h' s.toks kx
        simpa using this
      · refine Nat.lt_of_le_of_lt ?_ hu
        have := depth_mem (List.mem_map.mpr ⟨b, hb, rfl⟩ : kTot kf b ∈ ds.map (kTot kf))
        omega
      · obtain ⟨_, as', rd⟩ := hv
        have hsome := List.all_eq_true.mp hall d hd
        have hkd : kf d = some (kTot kf d) := by
          unfold kTot
          cases z : kf d with
          | none => rw [z] at hsome; cases hsome
          | some y => rfl
        refine lam_turn (s := { s with heap := g, toks := tk }) (kp _ _ ho) (hcr.keeps kp) hr.depth (I.nolimit.keeps kp) (L.bind _ _ _ _ _) L.loc L.co L.gen L.kind L.cell fun A L' s' kp2 e2 => ?_
        have kp3 : ∀ b o, s.heap.get? b = some o → s'.heap.get? b = some o := fun b o e => kp2 b o (kp b o e)
        obtain ⟨mb, b1, b2⟩ := gl.b
        exact L.ev _ _ A _ L' f c' s' v d _ as' ⟨gl.g.keeps kp3, mb, b1.keeps kp3, b2⟩ (PyProof.Rows.Reads.keeps kp3 rd) hkd e2
      · obtain ⟨ws, rw1, rw2⟩ := each_vals (eo.mono fun _ _ z => z.1)
        have I1 : Inv X pins σ H { s with heap := g1, toks := tk } := I.kept k1
        have hz : ws.length ≤ sizeLine := by
          rw [paired_len rw2, List.length_mergeSort, ← paired_len hR]
          exact hl
        exact ⟨.ref g1.objs.size, _, I1.laid (t' := tk) (o := .lst ws) k2 (Nat.le_refl _) ⟨hz, out, n', rw1, hp⟩, rfl, q _ ws (I1.hok.fresh (Nat.le_refl _)) (by rw [msF_eq _ _ _ (Nat.le_refl _)]; exact rw2)⟩
    rcases hs with hs | hs
    · obtain ⟨its, rv, ⟨o, n, hoa, hca, hd, hd2⟩, _⟩ := I.list hs
      exact core its o "list" _ (.inl rfl) rv hoa hca hd2
    · obtain ⟨its, rv, ⟨o, hoa, hca, n, hd⟩, _⟩ := I.tuple hs
      exact core its o "tuple" _ (.inr rfl) rv hoa hca hd
  · cases hk
end
end Pv
namespace Pv
open PySem L2 PySem.Spec PyProof.Rows
variable [Tbl]
/-- the one table -/
structure Lam1 (base : Heap) (mg : Str → Option Value) (c P : Addr) (q : Str) : Prop where
  tb : LamX.TabB base mg c P
  hT : Tbl.T = [(P, q)]
section
variable {X : Cx}
theorem jsortK {p pos lpos kpos : Pos} {e : Expr} {k : DD} {c P : Addr} {x : Str} {params : Arguments} {body : Expr} {scope : Scope} {kf : D → Option D} {kk : Nat} (hm : X.mg "sorted" = none) (hu : X.A.units + 64 < cLine) (hr : Room kk X.A) (lc : Lam1 X.base X.mg c P (X.env.qual ++ "<lambda>")) (L : LamOk X.mg params body scope x kf) (he : JR X e k)
    (cd : X.env.code = .ref c := by rfl) (df : defaultsOf params X.env = ([], []) := by rfl) (cl : closureFor scope X.env = pure [] := by rfl) (hg : Gl X "sorted" := by rfl)
    (h0 : starEach [e] X.env = (false, eval e X.env) :: starEach [] X.env := by rfl) (h1 : backTo pos (starEach [e] X.env) = (false, eval e X.env) :: backTo pos (starEach [] X.env) := by rfl) (h2 : (backTo pos (starEach [e] X.env)).any (·.1) = false := by rfl)
    (h3 : backToKw pos (keywordEach [⟨some ("key" : Str), .Lambda params body scope lpos, kpos⟩] X.env) = [(some ("key" : Str), (do let v ← eval (.Lambda params body scope lpos) X.env; standAt pos; pure v))] := by rfl) :
    JV X (.Call (.Name "sorted" p) [e] [⟨some ("key" : Str), .Lambda params body scope lpos, kpos⟩] pos) (dSortK kf k) := by
  refine ⟨fun pins s σ H Q I hq => ?_⟩
  obtain ⟨g, Hs, env, τ, v, τ', r, hf, q⟩ := hq
  obtain ⟨d, τ1, g1, g2⟩ := bnd_eq hf
  refine wpAny_Call_Name_kw (ld_blt (u := .builtin "sorted") I hg hm (by decide +kernel) ?_ (by decide) (by decide))
  have ja : JRs X [e] (dCons k dNil) := jr_cons he jr_nil h0
  refine PyProof.Rows.callWith_kw (thn (ja.run pos pins s σ H (fun ws H1 => ∃ Hs1, Up g Hs H Hs1 H1 τ1 ∧ Rdbs g.aT Hs1 H1 ws [d]) I ⟨g, Hs, env, τ, [d], τ1, r, (by unfold dCons; rw [g1]; rfl), fun ws Hs1 H1 u rv => ⟨Hs1, u, rv⟩⟩) fun us s1 ⟨vs, H1, I1, r1, Hs1, u1, rv⟩ => ?_) h1 h2 (by rw [h3]; rfl) (by rw [h3]; rfl)
  rw [h3]
  have inT : (P, X.env.qual ++ "<lambda>") ∈ Tbl.T := by rw [lc.hT]; exact List.mem_singleton.mpr rfl
  have uq : ∀ p ∈ Tbl.T, p.1 = P → p.2 = X.env.qual ++ "<lambda>" := fun p hp _ => by rw [lc.hT] at hp; rw [List.mem_singleton.mp hp]
  show wpAny _ _ (evalAll [do let v ← eval (.Lambda params body scope lpos) X.env; standAt pos; pure v]) _ _ s1
  refine wpAny_evalAll_cons (wpAny_bind (lam_mk I1 lc.tb cd inT uq u1.tp.tb df cl fun f c' H2 s2 M => wpAny_bind (wpAny_standAt (wpAny_pure (wpAny_evalAll_nil ?_)))))
  have u2 := M.up u1.le u1.tp inT
  have u12 := u1.trans u2
  obtain ⟨pm, ct, ho⟩ := M.obj
  cases rv with
  | cons rw0 rnil =>
    cases rnil
    have rw2 := rw0.up u2
    have fin : ∀ (ds rs : List D) (a : Addr) (xs : List V), (SqL X.K H2 a xs ∨ SqT X.K H2 a xs) → Rps Hs1 xs ds → xs.length ≤ sizeLine → srtK kf ds = some rs → v = .ow rs ∧ τ' = τ1 → us = [.ref a] → wpAny (model X.prog X.w) X.A (call (.builtin "sorted") us [(Str.ofString "key", .ref f)]) (EP X pins σ Q) X.xe s2 := by
      intro ds rs a xs hs hr' hl hk ev eu
      obtain ⟨rfl, rfl⟩ := ev
      rw [eu]
      have hrH : Rps H2 xs ds := hr'.to u2.le
      refine sortK_run hu hr L M.inv ho M.crc hs (Rps.dp _ _ hrH) hl (R := Rp Hs1) hr'.paired hk fun p' out hp ho' => ?_
      have hlen : out.length ≤ sizeLine := by
        rw [paired_len ho']
        unfold srtK at hk
        split at hk
        · cases hk
          rw [msF_eq _ _ _ (Nat.le_refl _), List.length_mergeSort, ← hr'.len]
          exact hl
        · cases hk
      exact q _ Hs1 _ (u12.mk1 hp) ⟨p', out, rfl, u12.neT hp, u12.freeS hp, upd_same, hlen, Rps.of_paired ho'⟩ fun _ p'' e2 => by cases e2; exact u12.old hp
    cases d with
    | list ds =>
      obtain ⟨a, xs, rfl, hp, hl, hrs⟩ := rw2.list u2.le
      obtain ⟨rs, hk, ev⟩ := Option.map_eq_some_iff.mp g2
      cases ev
      exact fin ds rs a xs (.inl (.of hp)) hrs hl hk ⟨rfl, rfl⟩ (Vals.ref1 r1)
    | tuple ds =>
      obtain ⟨a, xs, rfl, hp, hl, hrs⟩ := rw2.tuple
      obtain ⟨rs, hk, ev⟩ := Option.map_eq_some_iff.mp g2
      cases ev
      exact fin ds rs a xs (.inr (hp.mono u2.le).sq) hrs hl hk ⟨rfl, rfl⟩ (Vals.ref1 r1)
    | _ => cases g2
end
end Pv
namespace Pv
open PySem L2 PySem.Spec PyProof.Rows
variable [Tbl]
/-- the def of that name stands, its code object at c -/
def FdC (K : PySem.W.Frag) (mg : Str → Option Value) (x : Str) (st : Stmt) (ps : List Str) (c : Addr) : Prop := ∃ f fd, mg x = some (.ref f) ∧ Fun K x x st f fd ∧ Binds K fd ps [] ∧ fd.code = .ref c
theorem FdC.fd {K : PySem.W.Frag} {mg : Str → Option Value} {x : Str} {st : Stmt} {ps : List Str} {c : Addr} (F : FdC K mg x st ps c) : Fd K mg x st ps := let ⟨f, fd, a, b, d, _⟩ := F; ⟨f, fd, a, b, d⟩
section
variable {P : Program} {w : World} {K : PySem.W.Frag} {mg : Str → Option Value} {base : Heap} {x : Str} {st : Stmt} {N ps : List Str} {k i : Nat} {tb : Nat → Option Df} {c : Addr}
theorem fun_okC {f : Addr} {fd : FuncData} {sp : Sp} (F : Fun K x x st f fd) (hc : fd.code = .ref c) (S : FnScope N ps (defScope st)) (len : ∀ vs H Q E, sp vs H Q E → vs.length = ps.length)
    (hb : ∀ (A : Around) (outer : List PySem.Env) (s : Shared) (H : Hp) (vs : List V) (Q : VK) (E : XK), Room k (A.deeper (envOfC x (defScope st) s.heap.objs.size f (.ref c))) → sp vs H Q E →
      ∃ t, PSs (cxOf CX0 P w K mg base N x (defScope st) f (.ref c) A outer s H E).nox (defBody st) t ∧ t { nx := fun _ H' => Q .non H', rt := Q } (start N vs) H) : FnOk P w K mg base CX0 (k + 1) f fd ps sp := by
  obtain ⟨e1, e2, e3, e4, e5, e6, cv, e7, e8, e, lk, hcd⟩ := F.ex
  subst e
  have ecv : cv = .ref c := hc
  subst ecv
  refine fn_of lk hcd S len fun A outer s H vs Q E hr hsp => ?_
  obtain ⟨t, h, q⟩ := hb A outer s H vs Q E hr hsp
  exact ⟨t, h.nox, q⟩
theorem has_stepL {b : (Nat → Cal) → DS} (F : FdC K mg x st ps c) (S : FnScope N ps (defScope st)) (np nn : Nat) (hn : ps.length = np) (hN : N.length = nn) (ht : tb i = some ⟨np, nn, b⟩)
    (hbody : ∀ (f : Addr) (A : Around) (outer : List PySem.Env) (s : Shared) (H : Hp) (E : XK), Room k (A.deeper (envOfC x (defScope st) s.heap.objs.size f (.ref c))) → JSs (cxOf CX0 P w K mg base N x (defScope st) f (.ref c) A outer s H E).nox (defBody st) (b (callK tb k))) (hp : ps = (defArgs st).args.map (·.arg) := by rfl) : Has P w K mg base (k + 1) x np (callK tb (k + 1) i) := by
  obtain ⟨f, fd, hm, Fn, hb, hc⟩ := F
  subst hn; subst hN
  rw [callK_succ ht]
  refine ⟨f, fd, ps, hm, Fn.kp, hb, rfl, fun_okC Fn hc S (fun vs H Q E h => ?_) fun A outer s H vs Q E hr h => ?_, fn_look Fn, fn_args Fn hp⟩
  · obtain ⟨g, Hs, τ, as, r, τ', _, _, rv, _, hf, _⟩ := h
    unfold runF at hf
    split at hf
    · rw [paired_len rv]; assumption
    · cases hf
  · obtain ⟨g, Hs, τ, as, r, τ', le, tp, rv, no, hf, q⟩ := h
    refine ⟨tS (b (callK tb k)), hbody f A outer s H E hr, ?_⟩
    unfold runF at hf
    split at hf
    · obtain ⟨o, τ1, h1, h2⟩ := bnd_eq hf
      refine ⟨⟨H, Hs, g.aT, g.aS⟩, Hs, startE N.length as, τ, o, τ1, start_rel le tp rv no, h1, ?_⟩
      have up : ∀ {Hs' H' : Hp} {σ' : Sl} {env' : Ev}, Rel ⟨H, Hs, g.aT, g.aS⟩ Hs' H' σ' env' τ1 → Up g Hs H Hs' H' τ1 := fun r' => ⟨r'.ls, r'.bs, r'.bk, r'.fr, r'.le, ⟨r'.tp.tb, r'.tp.tn, r'.tp.h, r'.tp.n, r'.tp.s, r'.tp.l⟩⟩
      cases o with
      | rt v => cases h2; exact fun w Hs' H' _ r' rw' fr => q w Hs' H' (up r') rw' fr
      | nx env' => cases h2; exact fun σ' Hs' H' _ r' => q _ Hs' H' (up r') .non fun z => by cases z
      | bk _ => cases h2
      | ct _ => cases h2
    · cases hf
theorem fdc_mk {f : Addr} {h : Heap} {oc : Value} {od an : Option Addr} {osl : Array (Option Value)} {kV doc pm ct : Value} (X : K.In h) (G : h.Ns mainGlobals mg) (a : PySem.W.nsIn K mainGlobals x = some (some (.ref f)))
    (l : K.lookup f = some ⟨oc, od, .func (PySem.W.fnOf x x (defArgs st) (defBody st) (defScope st) .none kV doc pm an (.ref c) ct), osl⟩) (cc : PySem.W.codeIn K (.ref c) x = true) (kp : PySem.W.keepIn K (.ref f) = true)
    (h : ∀ (kV doc pm : Value) (an : Option Addr) (cdv ct : Value) (us : List Value), us.length = ps.length → bindArgs (PySem.W.fnOf x x (defArgs st) (defBody st) (defScope st) .none kV doc pm an cdv ct) ⟨us, []⟩ = pure (ps.zip us)) : FdC K mg x st ps c :=
  ⟨f, _, PySem.W.mg_of X G a, fun_mk l cc kp, (fun_mk l cc kp).binds h, rfl⟩
end
/-! ### the keys -/
/-- (one[2], one[0]) -/
def kHi : D → Option D
  | .tuple ds => match ds[2]?, ds[0]? with
    | some a, some b => if (scD a && scD b) = true then some (.tuple [a, b]) else none
    | _, _ => none
  | _ => none
/-- (-one[1], one[0]) -/
def kLo : D → Option D
  | .tuple ds => match ds[1]?, ds[0]? with
    | some (PyData.int i), some b => if scD b = true then some (.tuple [.int (-i), b]) else none
    | _, _ => none
  | _ => none
abbrev arg1 (x : Str) (pos : Pos) : Arguments := { posonlyargs := [], args := [{ arg := x, annotation := none, pos := pos }], vararg := none, kwonlyargs := [], kw_defaults := [], kwarg := none, defaults := [] }
abbrev sc1 (x : Str) : Scope := { kind := .function, names := [(x, .local)], isGenerator := false, isCoroutine := false, more := [] }
theorem lam_hi {mg : Str → Option Value} {pa p1 p2 p3 p4 p5 p6 p7 : Pos} {k1 k2 c : Nat} : LamOk mg (arg1 "one" pa) (.Tuple [.Subscript (.Name "one" p1) (.Constant (.int 2) k1 p2) p3, .Subscript (.Name "one" p4) (.Constant (.int 0) k2 p5) p6] c p7) (sc1 "one") "one" kHi where
  bind := fun _ _ _ _ _ => rfl
  loc := rfl
  co := rfl
  gen := rfl
  kind := rfl
  cell := fun x hx => by rw [List.mem_singleton.mp hx]; decide
  ev := fun prog w A qual L f c' s v d k as G r hk hn => by
    unfold kHi at hk
    split at hk
    · rename_i ds
      split at hk
      · rename_i a b ha hb
        split at hk
        · rename_i hs
          cases hk
          rw [Bool.and_eq_true] at hs
          exact ev_tup2 hs.1 hs.2 (ev_ix (j := 2) (v := v) rfl rfl hn (by simp) r ha (by decide)) (ev_ix (j := 0) (v := v) rfl rfl hn (by simp) r hb (by decide)) rfl
        · cases hk
      · cases hk
    · cases hk
theorem lam_lo {mg : Str → Option Value} {pa p1 p2 p3 p4 p5 p6 p7 p8 : Pos} {k1 k2 c : Nat} : LamOk mg (arg1 "one" pa) (.Tuple [.UnaryOp .USub (.Subscript (.Name "one" p1) (.Constant (.int 1) k1 p2) p3) p8, .Subscript (.Name "one" p4) (.Constant (.int 0) k2 p5) p6] c p7) (sc1 "one") "one" kLo where
  bind := fun _ _ _ _ _ => rfl
  loc := rfl
  co := rfl
  gen := rfl
  kind := rfl
  cell := fun x hx => by rw [List.mem_singleton.mp hx]; decide
  ev := fun prog w A qual L f c' s v d k as G r hk hn => by
    unfold kLo at hk
    split at hk
    · rename_i ds
      split at hk
      · rename_i i b ha hb
        split at hk
        · rename_i hs
          cases hk
          exact ev_tup2 rfl hs (ev_neg (ev_ix (j := 1) (v := v) rfl rfl hn (by simp) r ha (by decide))) (ev_ix (j := 0) (v := v) rfl rfl hn (by simp) r hb (by decide)) rfl
        · cases hk
      · cases hk
    · cases hk
/-! ### the end -/
theorem walk_many {l : PySem.W.OpenLaw} {n k : Nat} {q : Program} {loose : List Str} {XP : (Str → Option Value) → Heap → Prop} {YP : World → Heap → Prop} {d : DefRec} {K : Params → PySem.W.Frag} {x : Str} (rs : List Str)
    (most : l.most = some n) (few : n ≤ sizeLine) (dfl : d.params.defaults = []) (room : Room k callerA) (recs : ∀ y ∈ rs, ((recsOf q).any fun e => e.name == y) = true) (toK : ∀ (w : World) (h : Heap), YP w h → (K w.params).In h)
    (F : ∀ (w : World) (mg : Str → Option Value) (fa : Addr) (h : Heap), (K w.params).In h → h.Ns mainGlobals mg → mg d.name = some (.ref fa) →
      (∀ y ∈ rs, ∀ (fb c : Addr) (o : Obj) (fd : FuncData), mg y = some (.ref fb) → h.get? fb = some o → o.data = .func fd → fd.code = .ref c → ∃ P, PySem.W.CodeHd h c P ∧ h.get? P = some { cls := .none, data := .fields #[] }) →
      LamX.LawAtS l w (K w.params) CX0 k n x mg fa h) : PySem.W.WalkO q loose XP YP l.row.toRowW d [] (fun f vs => PySem.call f vs) := by
  refine Att.attach_callB most dfl fun w s₀ s₁ mg mb fa o pm cd doc a vs ns G Y ho hd hcd hmg hobj hints hlen hbits hg => ?_
  have inK := toK w _ Y
  obtain ⟨fd, cs, sp, t1, t2, t3, bd, start, run⟩ := F w mg fa _ inK G.T.g hmg fun y hy fb c o2 fd2 e1 e2 e3 e4 => by
    obtain ⟨r, hr, en⟩ := List.any_eq_true.mp (recs y hy)
    have en : r.name = y := beq_iff_eq.mp en
    obtain ⟨a2, o3, fd3, c3, P3, w1, w2, w3, w4, w5, w6⟩ := G.T.tab r hr
    rw [en, e1] at w1
    cases w1
    rw [e2] at w2; cases w2
    rw [e3] at w3; cases w3
    rw [e4] at w4; cases w4
    exact ⟨P3, PySem.W.CodeHd.of w5 w6, w6.2⟩
  exact LamX.law_callTs inK G.T.g G.T.b G.T.builtins G.T.nolimit hg t1 t2 t3 G.T.bmain hobj hints (Nat.le_trans hlen few) room run bd (fun H hH hS => start H a ns hlen hbits hH hS) fun _ _ _ z => z.elim
/-- the tables at the law's beginning -/
theorem tabs_start {H : Hp} {P : Addr} {q : Str} (hT : Tbl.T = [(P, q)]) (h : H P = some (.tbl #[])) : LamX.Tabs Tbl.T H := fun p hp => by
  rw [hT] at hp
  rw [List.mem_singleton.mp hp]
  exact LamX.TabS.nil h
end Pv
namespace Pv
open PySem L2 PySem.Spec PyProof.Rows
variable [Tbl]
section
variable {prog : Program} {w : World} {A : Around} {s : Shared} {env : PySem.Env}
/-- len(e), e a list -/
theorem ev_len {mg : Str → Option Value} {e : Expr} {p pos : Pos} {xs : List D} (G : GlobOk mg s.heap) (hm : mg "len" = none) (hk : env.scope.kind = .function) (hx : env.kindOf "len" = some .globalImplicit) (hg : env.globals = mainGlobals) (hb : env.builtins = builtinsNs) (hl : xs.length ≤ 16777216)
    (he : EvP prog w A env s e fun u h => ∃ as, Reads h u (.list xs) as) (h1 : starEach [e] env = (false, eval e env) :: starEach [] env) (h2 : starEach [] env = []) : EvP prog w A env s (.Call (.Name "len" p) [e] [] pos) fun u h => ∃ as, Reads h u (.int xs.length) as := by
  intro h tk ke
  obtain ⟨mb, b1, b2⟩ := G.b
  have hv : mb "len" = some (.builtin "len") := (b2 "len" (by decide)).trans (by decide +kernel)
  refine wpAny_Call_Name_kw (Calls.Name_function_global hk hx (Calls.loadGlobal_builtin (s := { s with heap := h, toks := tk }) (by rw [hg]; exact G.g.keeps ke) hm (by rw [hb]; exact b1.keeps ke) hv ?_) (by decide))
  refine PyProof.Rows.callWith_builtin1 ?_ h1 (by rw [h2]; rfl)
  rw [h1, h2]
  show wpAny _ _ (spliced [(false, eval e env)]) _ _ _
  refine Calls.spliced_cons (wpAny_mono (he h tk ke) (fun u s' z => ?_) fun _ _ z => z)
  obtain ⟨h', tk', rfl, k', as, r⟩ := z
  refine Calls.spliced_nil ?_
  cases r with
  | @list a o vs n _ as' e1 e2 e3 e4 =>
    have hn : vs.size = xs.length := by
      have go : ∀ {us : List Value} {es : List D} {bs : List Addr}, ReadsAll h' us es bs → us.length = es.length := by
        intro us es bs hh
        induction us generalizing es bs with
        | nil => cases hh; rfl
        | cons u us ih =>
          cases hh with
          | cons a b => rw [List.length_cons, List.length_cons, ih b]
      have := go e4
      rw [← this]; simp
    refine Calls.call_len_list (s := { s with heap := h', toks := tk' }) ⟨o, e1, e2, n, e3⟩ (by rw [hn]; omega) ⟨h', _, rfl, k', [], ?_⟩
    rw [hn]
    exact .int _ _
end
/-- -len(row[0]) -/
def kLen : D → Option D
  | .tuple ds => match ds[0]? with
    | some (PyData.list xs) => if xs.length ≤ 16777216 then some (.int (-(xs.length : Int))) else none
    | _ => none
  | _ => none
abbrev sc2 (x y : Str) : Scope := { kind := .function, names := [(x, .local), (y, .globalImplicit)], isGenerator := false, isCoroutine := false, more := [] }
theorem lam_len0 {mg : Str → Option Value} {pa p1 p2 p3 p4 p5 p6 : Pos} {k1 : Nat} {scope : Scope} (hm : mg "len" = none) (loc : scope.names.lookup ("row" : Str) = some .local) (gl : scope.names.lookup ("len" : Str) = some .globalImplicit) (co : scope.isCoroutine = false) (gen : scope.isGenerator = false) (kind : scope.kind = .function) (cell : ∀ x ∈ scope.names, x.2 ≠ .cell)
    (bind : ∀ (qual : Str) (pm ctv v : Value) (c' : Addr), bindArgs (PySem.W.kla_fn "<lambda>" qual (arg1 "row" pa) (.UnaryOp .USub (.Call (.Name "len" p1) [.Subscript (.Name "row" p2) (.Constant (.int 0) k1 p3) p4] [] p5) p6) scope [] pm (.ref c') ctv) ⟨[v], []⟩ = pure [(("row" : Str), v)]) :
    LamOk mg (arg1 "row" pa) (.UnaryOp .USub (.Call (.Name "len" p1) [.Subscript (.Name "row" p2) (.Constant (.int 0) k1 p3) p4] [] p5) p6) scope "row" kLen where
  bind := bind
  loc := loc
  co := co
  gen := gen
  kind := kind
  cell := cell
  ev := fun prog w A qual L f c' s v d k as G r hk hn => by
    unfold kLen at hk
    split at hk
    · rename_i ds
      split at hk
      · rename_i xs hxs
        split at hk
        · rename_i hl
          cases hk
          have en := ev_neg (pos := p6) (ev_len (p := p1) (pos := p5) (prog := prog) (w := w) (A := A) (env := PySem.W.envX qual scope L f (.ref c') []) G hm kind gl rfl rfl hl (ev_ix (p := p2) (p2 := p3) (pos := p4) (kd := k1) (j := 0) (v := v) kind loc hn (by simp) r hxs (by decide)) rfl rfl)
          intro h tk ke
          refine wpAny_mono (en h tk ke) (fun u s' z => ?_) fun _ _ z => z
          obtain ⟨h', tk', rfl, k', as, r⟩ := z
          have := reads_sca rfl r
          subst this
          exact ⟨h', tk', rfl, k', r⟩
        · cases hk
      · cases hk
    · cases hk
theorem lam_len {mg : Str → Option Value} {pa p1 p2 p3 p4 p5 p6 : Pos} {k1 : Nat} (hm : mg "len" = none) : LamOk mg (arg1 "row" pa) (.UnaryOp .USub (.Call (.Name "len" p1) [.Subscript (.Name "row" p2) (.Constant (.int 0) k1 p3) p4] [] p5) p6) (sc2 "row" "len") "row" kLen :=
  lam_len0 hm rfl rfl rfl rfl rfl (by decide) fun _ _ _ _ _ => rfl
end Pv
namespace Pv
open PySem L2 PySem.Spec PyProof.Rows
/-- is_within(thing, low, high) -/
abbrev b0 : (Nat → Cal) → DS := fun C => sRet (vD (dand (dIsi .int (dVar 0)) (dand (dnot (tstD (dIsi .bool (dVar 0)))) (dChn leV leV (dVar 1) (dVar 0) (dVar 2)))))
abbrev d0 : Df := ⟨3, 3, b0⟩
/-- is_name(thing) -/
abbrev b1 : (Nat → Cal) → DS := fun C => sRet (vD (dand (dIsi .str (dVar 0)) (dand (dChn leV leV (dK (.int 1)) (shD (dCl lenV (dCons (dVar 0) (dNil)))) (dK (.int 8))) (shD (dCl allC (dCons (shD (dComp [1] (dIt (dVar 0)) (gN 1) (yes) (shD (dBin inV (dVar 1) (dK (.str ("abcdefghijklmnopqrstuvwxyz" : Str))))))) (dNil)))))))
abbrev d1 : Df := ⟨1, 2, b1⟩
/-- is_one(thing) -/
abbrev b2 : (Nat → Cal) → DS := fun C => sSeq (sIf (tor (tnot (tstD (dIsi .tuple (dVar 0)))) (tor (tst (dBin neV (shD (dCl lenV (dCons (dVar 0) (dNil)))) (dK (.int 3)))) (tnot (tst (dDef (C 1) (vCons (shD (dBin ixV (dVar 0) (dK (.int 0)))) (vNil))))))) (sRet (vD (dK (.bool false)))) (sNil)) (sRet (vD (dand (shD (dDef (C 0) (vCons (shD (dBin ixV (dVar 0) (dK (.int 1)))) (vCons (dK (.int 0)) (vCons (dK (.int 40)) (vNil)))))) (dand (shD (dDef (C 0) (vCons (shD (dBin ixV (dVar 0) (dK (.int 2)))) (vCons (dK (.int 0)) (vCons (dK (.int 40)) (vNil)))))) (shD (dBin leV (shD (dBin ixV (dVar 0) (dK (.int 1)))) (shD (dBin ixV (dVar 0) (dK (.int 2))))))))))
abbrev d2 : Df := ⟨1, 1, b2⟩
/-- are_folk(thing) -/
abbrev b3 : (Nat → Cal) → DS := fun C => sSeq (sIf (tor (tnot (tstD (dIsi .tuple (dVar 0)))) (tor (tnot (tstD (dChn leV leV (dK (.int 1)) (shD (dCl lenV (dCons (dVar 0) (dNil)))) (dK (.int 6))))) (tnot (tst (dCl allC (dCons (shD (dComp [1] (dIt (dVar 0)) (gN 1) (yes) (shD (dDef (C 2) (vCons (dVar 1) (vNil)))))) (dNil))))))) (sRet (vD (dK (.bool false)))) (sNil)) (sSeq (sAsg 2 (dComp [1] (dIt (dVar 0)) (gN 1) (yes) (shD (dBin ixV (dVar 1) (dK (.int 0)))))) (sRet (dCl allC (dCons (shD (dComp [1, 3] (dZip (dVar 2) (shD (dSl (dVar 2) (oSome (dK (.int 1))) (oNone)))) (gT [1, 3]) (yes) (shD (dBin ltV (dVar 1) (dVar 3))))) (dNil)))))
abbrev d3 : Df := ⟨1, 4, b3⟩
/-- _law_draw(tape, many) -/
abbrev b4 : (Nat → Cal) → DS := fun C => sSeq (sAsg 2 (vD (dK (.int 2305843009213693951)))) (sSeq (sIf (tst (dBin ltV (dTapIx 0 2) (dVar 1))) (sSeq (sAsg 3 (vD (dK (.int 0)))) (sSeq (sIf (tst (dBin gtV (shD (dCl lenV (dCons (dTapIx 0 0) (dNil)))) (dK (.int 0)))) (sAsg 3 (dBin ixV (dTapIx 0 0) (shD (dBin modV (dTapIx 0 1) (shD (dCl lenV (dCons (dTapIx 0 0) (dNil)))))))) (sNil)) (sSeq (sIf (tor (tst (dBin geV (dTapIx 0 1) (shD (dCl lenV (dCons (dTapIx 0 0) (dNil)))))) (tst (dBin ltV (dVar 3) (shD (dBin powV (dK (.int 10)) (dK (.int 18))))))) (sSeq (sAsg 3 (dBin modV (shD (dBin addV (dVar 3) (shD (dBin mulV (dK (.int 1000003)) (dTapIx 0 1))))) (dVar 2))) (sSeq (sAsg 3 (dBin modV (shD (dBin addV (shD (dBin addV (shD (dBin mulV (dVar 3) (dVar 3))) (shD (dBin mulV (dK (.int 1181783497276652981)) (dVar 3))))) (dK (.int 2049848353892358983)))) (dVar 2))) (sAsg 3 (dBin modV (shD (dBin addV (shD (dBin mulV (dVar 3) (dVar 3))) (dK (.int 1442695040888963407)))) (dVar 2))))) (sNil)) (sSeq (sTap 0 1 (shD (dBin addV (dTapIx 0 1) (dK (.int 1))))) (sTap 0 2 (dVar 3)))))) (sNil)) (sSeq (sAsg 4 (dBin modV (dTapIx 0 2) (dVar 1))) (sSeq (sTap 0 2 (shD (dBin fdivV (dTapIx 0 2) (dVar 1)))) (sRet (vD (dVar 4))))))
abbrev d4 : Df := ⟨2, 5, b4⟩
/-- _law_like(one, two) -/
abbrev b7 : (Nat → Cal) → DS := fun C => sSeq (sIf (tstD (dIsi2 .list .tuple (dVar 0))) (sSeq (sIf (tor (tst (dBin neV (dIsi .list (dVar 0)) (dIsi .list (dVar 1)))) (tst (dBin neV (dIsi .tuple (dVar 0)) (dIsi .tuple (dVar 1))))) (sRet (vD (dK (.bool false)))) (sNil)) (sSeq (sIf (tst (dBin neV (shD (dCl lenV (dCons (dVar 0) (dNil)))) (shD (dCl lenV (dCons (dVar 1) (dNil)))))) (sRet (vD (dK (.bool false)))) (sNil)) (sRet (dBin eqV (shD (dComp [2] (dRng1 (dCons (shD (dCl lenV (dCons (dVar 0) (dNil)))) (dNil))) (gN 2) (tnot (tst (dDef (C 7) (vCons (shD (dBin ixV (dVar 0) (dVar 2))) (vCons (shD (dBin ixV (dVar 1) (dVar 2))) (vNil)))))) (dVar 2))) (shD (dLst (dNil))))))) (sNil)) (sSeq (sIf (tstD (dIsi2 .list .tuple (dVar 1))) (sRet (vD (dK (.bool false)))) (sNil)) (sRet (vD (dand (shD (dBin eqV (dIsi .bool (dVar 0)) (dIsi .bool (dVar 1)))) (shD (dBin eqV (dVar 0) (dVar 1)))))))
abbrev d7 : Df := ⟨2, 3, b7⟩
/-- _law_folk(tape, size) -/
abbrev b12 : (Nat → Cal) → DS := fun C => sSeq (sPar [2, 3] (wCons (shD (dBin ixV (shD (dLst (dCons (dK (.int 6)) (dCons (dK (.int 20)) (dCons (dK (.int 41)) (dNil)))))) (shD (dDef (C 4) (vTap 0 (vCons (dK (.int 3)) (vNil))))))) (wCons (shD (dBin ixV (shD (dLst (dCons (dK (.int 1)) (dCons (dK (.int 4)) (dCons (dK (.int 20)) (dNil)))))) (shD (dDef (C 4) (vTap 0 (vCons (dK (.int 3)) (vNil))))))) (wNil)))) (sSeq (sAsg 4 (dDef (C 4) (vTap 0 (vCons (shD (dBin subV (dK (.int 42)) (dVar 2))) (vNil))))) (sSeq (sAsgO 5 (dLst (dNil))) (sSeq (sFor (dIt (shD (dSl (shD (dLst (dCons (dK (.str ("ann" : Str))) (dCons (dK (.str ("bob" : Str))) (dCons (dK (.str ("cy" : Str))) (dCons (dK (.str ("dee" : Str))) (dCons (dK (.str ("eve" : Str))) (dCons (dK (.str ("fay" : Str))) (dNil))))))))) (oNone) (oSome (shD (dBin addV (dK (.int 1)) (shD (dDef (C 4) (vTap 0 (vCons (dVar 1) (vNil))))))))))) (gN 6) (sSeq (sAsg 7 (dBin addV (dVar 4) (shD (dDef (C 4) (vTap 0 (vCons (dVar 2) (vNil))))))) (sMut 5 appV (dCons (dTup (dCons (dVar 6) (dCons (dVar 7) (dCons (shD (dCl min2 (dCons (dK (.int 40)) (dCons (shD (dBin addV (dVar 7) (shD (dDef (C 4) (vTap 0 (vCons (dVar 3) (vNil))))))) (dNil))))) (dNil))))) (dNil))))) (sRet (dCl tupC (dCons (dBor 5) (dNil)))))))
abbrev d12 : Df := ⟨2, 8, b12⟩
/-- suited(one, degree) -/
abbrev b15 : (Nat → Cal) → DS := fun C => sSeq (sUnp (gT [2, 3, 4]) (dVar 0)) (sRet (dCl min2 (dCons (shD (dCl max2 (dCons (dVar 1) (dCons (dVar 3) (dNil))))) (dCons (dVar 4) (dNil)))))
abbrev d15 : Df := ⟨2, 5, b15⟩
/-- settings(folk, degree, visits) -/
abbrev b16 : (Nat → Cal) → DS := fun C => sSeq (sAsgO 3 (dDc [4] (dIt (dVar 0)) (gN 4) (yes) (shD (dBin ixV (dVar 4) (dK (.int 0)))) (dVar 4))) (sSeq (sAsgO 5 (dLst (dNil))) (sSeq (sFor (dIt (dVar 2)) (gN 6) (sSeq (sAsg 1 (dDef (C 15) (vCons (dGet (dMb 3) (dVar 6)) (vCons (dVar 1) (vNil))))) (sMut 5 appV (dCons (dVar 1) (dNil))))) (sRetO 5)))
abbrev d16 : Df := ⟨3, 7, b16⟩
/-- turned(folk, degree, visits) -/
abbrev b17 : (Nat → Cal) → DS := fun C => sSeq (sAsg 3 (dBin addV (shD (dLst (dCons (dVar 1) (dNil)))) (shD (dDef (C 16) (vCons (dVar 0) (vCons (dVar 1) (vCons (dVar 2) (vNil)))))))) (sRet (dCl sumC (dCons (shD (dComp [4, 5] (dZip (dVar 3) (shD (dSl (dVar 3) (oSome (dK (.int 1))) (oNone)))) (gT [4, 5]) (yes) (shD (dCl absC (dCons (shD (dBin subV (dVar 4) (dVar 5))) (dNil)))))) (dNil))))
abbrev d17 : Df := ⟨3, 6, b17⟩
/-- two_numbers(folk, visits) -/
abbrev b18 : (Nat → Cal) → DS := fun C => sRet (vD (dTup (dCons (shD (dBin ixV (shD (dBin addV (shD (dLst (dCons (dK (.int 0)) (dNil)))) (shD (dDef (C 16) (vCons (dVar 0) (vCons (dK (.int 0)) (vCons (dVar 1) (vNil)))))))) (dNeg (dK (.int 1))))) (dCons (shD (dBin ixV (shD (dBin addV (shD (dLst (dCons (dK (.int 40)) (dNil)))) (shD (dDef (C 16) (vCons (dVar 0) (vCons (dK (.int 40)) (vCons (dVar 1) (vNil)))))))) (dNeg (dK (.int 1))))) (dNil)))))
abbrev d18 : Df := ⟨2, 2, b18⟩
/-- _law_names(folk) -/
abbrev b19 : (Nat → Cal) → DS := fun C => sRet (dComp [1] (dIt (dVar 0)) (gN 1) (yes) (shD (dBin ixV (dVar 1) (dK (.int 0)))))
abbrev d19 : Df := ⟨1, 2, b19⟩
/-- _law_visits(tape, folk, size) -/
abbrev b20 : (Nat → Cal) → DS := fun C => sSeq (sAsg 3 (dDef (C 19) (vCons (dVar 1) (vNil)))) (sRet (dComp [4] (dRng1 (dCons (shD (dDef (C 4) (vTap 0 (vCons (shD (dBin addV (dVar 2) (dK (.int 1)))) (vNil))))) (dNil))) (gN 4) (yes) (shD (dBin ixV (dVar 3) (shD (dDef (C 4) (vTap 0 (vCons (shD (dCl lenV (dCons (dVar 3) (dNil)))) (vNil)))))))))
abbrev d20 : Df := ⟨3, 5, b20⟩
/-- _law_rows(folk, degree, visits) -/
abbrev b21 : (Nat → Cal) → DS := fun C => sSeq (sAsgO 3 (dDictL (shD (dComp [4, 5, 6] (dIt (dVar 0)) (gT [4, 5, 6]) (yes) (dTup (dCons (dVar 4) (dCons (dTup (dCons (dVar 5) (dCons (dVar 6) (dNil)))) (dNil)))))))) (sSeq (sAsgO 7 (dLst (dNil))) (sSeq (sFor (dIt (dVar 2)) (gN 4) (sSeq (sUnp (gT [5, 6]) (dGet (dMb 3) (dVar 4))) (sSeq (sAsg 1 (vD (dif (tst (dBin ltV (dVar 1) (dVar 5))) (dVar 5) (dif (tst (dBin gtV (dVar 1) (dVar 6))) (dVar 6) (dVar 1))))) (sMut 7 appV (dCons (dVar 1) (dNil)))))) (sRetO 7)))
abbrev d21 : Df := ⟨3, 8, b21⟩
/-- _law_turned(folk, degree, visits) -/
abbrev b22 : (Nat → Cal) → DS := fun C => sSeq (sAsg 3 (vD (dK (.int 0)))) (sSeq (sFor (dIt (shD (dDef (C 21) (vCons (dVar 0) (vCons (dVar 1) (vCons (dVar 2) (vNil))))))) (gN 4) (sPar [3, 1] (wCons (shD (dBin addV (dVar 3) (shD (dCl absC (dCons (shD (dBin subV (dVar 4) (dVar 1))) (dNil)))))) (wCons (dVar 4) (wNil))))) (sRet (vD (dVar 3))))
abbrev d22 : Df := ⟨3, 5, b22⟩
/-- first_day(folk, degree, order) -/
abbrev b26 : (Nat → Cal) → DS := fun C => sRet (dBin ixV (shD (dDef (C 16) (vCons (dVar 0) (vCons (dVar 1) (vCons (dVar 2) (vNil)))))) (dNeg (dK (.int 1))))
abbrev d26 : Df := ⟨3, 3, b26⟩
/-- far_setting(folk, degree, order, days) -/
abbrev b27 : (Nat → Cal) → DS := fun C => sRet (vif (tst (dBin gtV (dVar 3) (dK (.int 0)))) (dDef (C 26) (vCons (dVar 0) (vCons (dVar 1) (vCons (dVar 2) (vNil))))) (vD (dVar 1)))
abbrev d27 : Df := ⟨4, 4, b27⟩
/-- each_day(folk, order) -/
abbrev b28 : (Nat → Cal) → DS := fun C => sRet (dDef (C 17) (vCons (dVar 0) (vCons (shD (dDef (C 26) (vCons (dVar 0) (vCons (dK (.int 0)) (vCons (dVar 1) (vNil)))))) (vCons (dVar 1) (vNil)))))
abbrev d28 : Df := ⟨2, 2, b28⟩
/-- far_turned(folk, degree, order, days) -/
abbrev b29 : (Nat → Cal) → DS := fun C => sSeq (sIf (tst (dBin eqV (dVar 3) (dK (.int 0)))) (sRet (vD (dK (.int 0)))) (sNil)) (sRet (dBin addV (shD (dDef (C 17) (vCons (dVar 0) (vCons (dVar 1) (vCons (dVar 2) (vNil)))))) (shD (dBin mulV (shD (dBin subV (dVar 3) (dK (.int 1)))) (shD (dDef (C 28) (vCons (dVar 0) (vCons (dVar 2) (vNil)))))))))
abbrev d29 : Df := ⟨4, 4, b29⟩
/-- moves(folk, order) -/
abbrev b35 : (Nat → Cal) → DS := fun C => sSeq (sAsg 2 (dDef (C 26) (vCons (dVar 0) (vCons (dK (.int 0)) (vCons (dVar 1) (vNil)))))) (sSeq (sAsgO 3 (dLst (dNil))) (sSeq (sFor (dZip (dVar 1) (shD (dDef (C 16) (vCons (dVar 0) (vCons (dVar 2) (vCons (dVar 1) (vNil))))))) (gT [4, 5]) (sSeq (sMut 3 appV (dCons (dTup (dCons (dVar 4) (dCons (dVar 2) (dCons (dVar 5) (dNil))))) (dNil))) (sAsg 2 (vD (dVar 5))))) (sRetO 3)))
abbrev d35 : Df := ⟨2, 6, b35⟩
/-- crossed(folk, order) -/
abbrev b36 : (Nat → Cal) → DS := fun C => sSeq (sAsg 2 (dDef (C 35) (vCons (dVar 0) (vCons (dVar 1) (vNil))))) (sSeq (sAsgO 3 (dLst (dNil))) (sSeq (sFor (dRng1 (dCons (dK (.int 40)) (dNil))) (gN 4) (sMut 3 appV (dCons (shD (dCl lenV (dCons (shD (dComp [5, 6, 7] (dIt (dVar 2)) (gT [5, 6, 7]) (tstD (dChn leV ltV (shD (dCl min2 (dCons (dVar 6) (dCons (dVar 7) (dNil))))) (dVar 4) (shD (dCl max2 (dCons (dVar 6) (dCons (dVar 7) (dNil))))))) (dK (.int 1)))) (dNil)))) (dNil)))) (sRetO 3)))
abbrev d36 : Df := ⟨2, 8, b36⟩
/-- shares(folk, order) -/
abbrev b37 : (Nat → Cal) → DS := fun C => sRet (dCl srtC (dCons (shD (dComp [2, 3, 4] (dIt (shD (dDef (C 35) (vCons (dVar 0) (vCons (dVar 1) (vNil)))))) (gT [2, 3, 4]) (yes) (dTup (dCons (dVar 2) (dCons (shD (dCl absC (dCons (shD (dBin subV (dVar 3) (dVar 4))) (dNil)))) (dNil)))))) (dNil)))
abbrev d37 : Df := ⟨2, 5, b37⟩
/-- lesser_side(folk, step) -/
abbrev b39 : (Nat → Cal) → DS := fun C => sSeq (sAsg 2 (dCl lenV (dCons (shD (dComp [3, 4, 5] (dIt (dVar 0)) (gT [3, 4, 5]) (tst (dBin leV (dVar 5) (dVar 1))) (dK (.int 1)))) (dNil)))) (sSeq (sAsg 6 (dCl lenV (dCons (shD (dComp [3, 4, 5] (dIt (dVar 0)) (gT [3, 4, 5]) (tst (dBin gtV (dVar 4) (dVar 1))) (dK (.int 1)))) (dNil)))) (sRet (dCl min2 (dCons (dVar 2) (dCons (dVar 6) (dNil))))))
abbrev d39 : Df := ⟨2, 7, b39⟩
/-- most_crossed(folk) -/
abbrev b40 : (Nat → Cal) → DS := fun C => sRet (dComp [1] (dRng1 (dCons (dK (.int 40)) (dNil))) (gN 1) (yes) (shD (dBin mulV (dK (.int 2)) (shD (dDef (C 39) (vCons (dVar 0) (vCons (dVar 1) (vNil))))))))
abbrev d40 : Df := ⟨1, 2, b40⟩
/-- most(folk) -/
abbrev b41 : (Nat → Cal) → DS := fun C => sRet (dCl sumC (dCons (shD (dDef (C 40) (vCons (dVar 0) (vNil)))) (dNil)))
abbrev d41 : Df := ⟨1, 1, b41⟩
/-- names_of(folk) -/
abbrev b46 : (Nat → Cal) → DS := fun C => sRet (dComp [1] (dIt (dVar 0)) (gN 1) (yes) (shD (dBin ixV (dVar 1) (dK (.int 0)))))
abbrev d46 : Df := ⟨1, 2, b46⟩
/-- greatest_low(folk) -/
abbrev b47 : (Nat → Cal) → DS := fun C => sRet (dCl maxL (dCons (shD (dComp [1, 2, 3] (dIt (dVar 0)) (gT [1, 2, 3]) (yes) (dVar 2))) (dNil)))
abbrev d47 : Df := ⟨1, 4, b47⟩
/-- least_high(folk) -/
abbrev b48 : (Nat → Cal) → DS := fun C => sRet (dCl minL (dCons (shD (dComp [1, 2, 3] (dIt (dVar 0)) (gT [1, 2, 3]) (yes) (dVar 3))) (dNil)))
abbrev d48 : Df := ⟨1, 4, b48⟩
/-- least(folk) -/
abbrev b49 : (Nat → Cal) → DS := fun C => sRet (dBin mulV (dK (.int 2)) (shD (dCl max2 (dCons (dK (.int 0)) (dCons (shD (dBin subV (shD (dDef (C 47) (vCons (dVar 0) (vNil)))) (shD (dDef (C 48) (vCons (dVar 0) (vNil)))))) (dNil))))))
abbrev d49 : Df := ⟨1, 1, b49⟩
/-- least_order(folk) -/
abbrev b50 : (Nat → Cal) → DS := fun C => sRet (dCl tupC (dCons (shD (dComp [1, 2] (dIt (shD (dCl srtC (dCons (shD (dComp [2, 3, 1] (dIt (dVar 0)) (gT [2, 3, 1]) (yes) (dTup (dCons (dNeg (dVar 1)) (dCons (dVar 2) (dNil)))))) (dNil))))) (gT [1, 2]) (yes) (dVar 2))) (dNil)))
abbrev d50 : Df := ⟨1, 4, b50⟩
/-- orders(names) -/
abbrev b51 : (Nat → Cal) → DS := fun C => sSeq (sAsg 1 (dLst (dCons (shD (dSl (dVar 0) (oNone) (oSome (dK (.int 1))))) (dNil)))) (sSeq (sFor (dIt (shD (dSl (dVar 0) (oSome (dK (.int 1))) (oNone)))) (gN 2) (sAsg 1 (dComp2 [3, 4] [4] (dIt (dVar 1)) (gN 3) (yes) (dRng2 (dCons (dK (.int 1)) (dCons (shD (dBin addV (shD (dCl lenV (dCons (dVar 3) (dNil)))) (dK (.int 1)))) (dNil)))) (gN 4) (yes) (shD (dBin addV (shD (dBin addV (shD (dSl (dVar 3) (oNone) (oSome (dVar 4)))) (shD (dLst (dCons (dVar 2) (dNil)))))) (shD (dSl (dVar 3) (oSome (dVar 4)) (oNone)))))))) (sRet (vD (dVar 1))))
abbrev d51 : Df := ⟨1, 5, b51⟩
/-- most_by(folk, name) -/
abbrev b54 : (Nat → Cal) → DS := fun C => sSeq (sAsg 2 (dBin ixV (shD (dComp [3] (dIt (dVar 0)) (gN 3) (tst (dBin eqV (shD (dBin ixV (dVar 3) (dK (.int 0)))) (dVar 1))) (dVar 3))) (dK (.int 0)))) (sSeq (sAsg 4 (dComp [3] (dIt (dVar 0)) (gN 3) (tst (dBin neV (shD (dBin ixV (dVar 3) (dK (.int 0)))) (dVar 1))) (dVar 3))) (sSeq (sIf (tst (dBin eqV (dVar 4) (shD (dLst (dNil))))) (sRet (vD (dK (.int 0)))) (sNil)) (sRet (dCl max3 (dCons (dK (.int 0)) (dCons (shD (dBin subV (shD (dBin ixV (dVar 2) (dK (.int 1)))) (shD (dDef (C 48) (vCons (dVar 4) (vNil)))))) (dCons (shD (dBin subV (shD (dDef (C 47) (vCons (dVar 4) (vNil)))) (shD (dBin ixV (dVar 2) (dK (.int 2)))))) (dNil))))))))
abbrev d54 : Df := ⟨2, 5, b54⟩
/-- onlookers(folk) -/
abbrev b55 : (Nat → Cal) → DS := fun C => sRet (dCl tupC (dCons (shD (dComp [1] (dIt (shD (dDef (C 46) (vCons (dVar 0) (vNil))))) (gN 1) (tst (dBin eqV (shD (dDef (C 54) (vCons (dVar 0) (vCons (dVar 1) (vNil))))) (dK (.int 0)))) (dVar 1))) (dNil)))
abbrev d55 : Df := ⟨1, 2, b55⟩
/-- known(folk) -/
abbrev b57 : (Nat → Cal) → DS := fun C => sSeq (sAsg 1 (dDef (C 46) (vCons (dVar 0) (vNil)))) (sSeq (sFor (dIt (shD (dBin addV (shD (dComp [3] (dIt (dVar 1)) (gN 3) (yes) (shD (dLst (dCons (dVar 3) (dNil)))))) (shD (dComp2 [4, 5] [5] (dIt (dVar 1)) (gN 4) (yes) (dIt (dVar 1)) (gN 5) (yes) (shD (dLst (dCons (dVar 4) (dCons (dVar 5) (dNil)))))))))) (gN 2) (sSeq (sUnp (gT [6, 7]) (shD (dDef (C 18) (vCons (dVar 0) (vCons (dVar 2) (vNil)))))) (sIf (tst (dBin eqV (dVar 6) (dVar 7))) (sRet (vD (dVar 2))) (sNil)))) (sRet (vD (dK .none))))
abbrev d57 : Df := ⟨1, 8, b57⟩
/-- suits_all(folk) -/
abbrev b58 : (Nat → Cal) → DS := fun C => sSeq (sPar [1, 2] (wCons (shD (dDef (C 47) (vCons (dVar 0) (vNil)))) (wCons (shD (dDef (C 48) (vCons (dVar 0) (vNil)))) (wNil)))) (sRet (vD (dif (tst (dBin leV (dVar 1) (dVar 2))) (dTup (dCons (dVar 1) (dCons (dVar 2) (dNil)))) (dK .none))))
abbrev d58 : Df := ⟨1, 3, b58⟩
/-- at_home(folk) -/
abbrev b59 : (Nat → Cal) → DS := fun C => sSeq (sAsgO 1 (dLst (dNil))) (sSeq (sFor (dRng1 (dCons (shD (dBin addV (dK (.int 40)) (dK (.int 1)))) (dNil))) (gN 2) (sSeq (sAsg 3 (dCl tupC (dCons (shD (dComp [4, 5, 6] (dIt (dVar 0)) (gT [4, 5, 6]) (tnot (tstD (dChn leV leV (dVar 5) (dVar 2) (dVar 6)))) (dVar 4))) (dNil)))) (sMut 1 appV (dCons (dTup (dCons (shD (dCl lenV (dCons (dVar 3) (dNil)))) (dCons (dVar 3) (dNil)))) (dNil))))) (sRet (dBin ixV (shD (dCl minL (dCons (dBor 1) (dNil)))) (dK (.int 1)))))
abbrev d59 : Df := ⟨1, 7, b59⟩
/-- widened(folk) -/
abbrev b60 : (Nat → Cal) → DS := fun C => sRet (dCl max2 (dCons (dK (.int 0)) (dCons (shD (dBin fdivV (shD (dBin addV (shD (dBin subV (shD (dDef (C 47) (vCons (dVar 0) (vNil)))) (shD (dDef (C 48) (vCons (dVar 0) (vNil)))))) (dK (.int 1)))) (dK (.int 2)))) (dNil))))
abbrev d60 : Df := ⟨1, 1, b60⟩
/-- _law_four_right(by) -/
abbrev b71 : (Nat → Cal) → DS := fun C => sSeq (sAsg 1 (vD (dTup (dCons (dTup (dCons (dK (.str ("ann" : Str))) (dCons (dVar 0) (dCons (dVar 0) (dNil))))) (dCons (dTup (dCons (dK (.str ("bob" : Str))) (dCons (shD (dBin addV (dVar 0) (dK (.int 1)))) (dCons (shD (dBin addV (dVar 0) (dK (.int 1)))) (dNil))))) (dCons (dTup (dCons (dK (.str ("cy" : Str))) (dCons (shD (dBin addV (dVar 0) (dK (.int 5)))) (dCons (shD (dBin addV (dVar 0) (dK (.int 5)))) (dNil))))) (dCons (dTup (dCons (dK (.str ("dee" : Str))) (dCons (shD (dBin addV (dVar 0) (dK (.int 7)))) (dCons (shD (dBin addV (dVar 0) (dK (.int 7)))) (dNil))))) (dNil)))))))) (sSeq (sIf (tor (tst (dBin neV (shD (dDef (C 41) (vCons (dVar 1) (vNil)))) (shD (dBin mulV (dK (.int 2)) (shD (dBin subV (shD (dBin subV (shD (dBin addV (dK (.int 5)) (dK (.int 7)))) (dK (.int 0)))) (dK (.int 1)))))))) (tst (dBin neV (shD (dDef (C 49) (vCons (dVar 1) (vNil)))) (dK (.int 14))))) (sRet (vD (dK (.bool false)))) (sNil)) (sSeq (sIf (tst (dBin neV (shD (dDef (C 28) (vCons (dVar 1) (vCons (dTup (dCons (dK (.str ("ann" : Str))) (dCons (dK (.str ("cy" : Str))) (dCons (dK (.str ("bob" : Str))) (dCons (dK (.str ("dee" : Str))) (dNil)))))) (vNil))))) (dK (.int 22)))) (sRet (vD (dK (.bool false)))) (sNil)) (sSeq (sIf (tor (tst (dBin neV (shD (dDef (C 28) (vCons (dVar 1) (vCons (dTup (dCons (dK (.str ("dee" : Str))) (dCons (dK (.str ("cy" : Str))) (dCons (dK (.str ("bob" : Str))) (dCons (dK (.str ("ann" : Str))) (dNil)))))) (vNil))))) (dK (.int 14)))) (tst (dBin neV (shD (dDef (C 52) (vCons (dVar 1) (vNil)))) (shD (dLst (dCons (dK (.int 14)) (dCons (dK (.int 22)) (dNil)))))))) (sRet (vD (dK (.bool false)))) (sNil)) (sRet (vD (dand (shD (dBin eqV (shD (dDef (C 57) (vCons (dVar 1) (vNil)))) (shD (dLst (dCons (dK (.str ("ann" : Str))) (dNil)))))) (dand (shD (dBin eqV (shD (dDef (C 59) (vCons (dVar 1) (vNil)))) (dTup (dCons (dK (.str ("ann" : Str))) (dCons (dK (.str ("bob" : Str))) (dCons (dK (.str ("cy" : Str))) (dNil))))))) (shD (dBin eqV (shD (dDef (C 60) (vCons (dVar 1) (vNil)))) (dK (.int 4)))))))))))
abbrev d71 : Df := ⟨1, 2, b71⟩
end Pv
namespace Pv
open PySem L2 PySem.Spec PyProof.Rows
/-- amounts(folk) -/
abbrev b52 : (Nat → Cal) → DS := fun C => sRet (dsortedM (dDc [1] (dIt (shD (dDef (C 51) (vCons (shD (dDef (C 46) (vCons (dVar 0) (vNil)))) (vNil))))) (gN 1) (yes) (shD (dDef (C 28) (vCons (dVar 0) (vCons (shD (dCl tupC (dCons (dVar 1) (dNil)))) (vNil))))) (dK (.bool true))))
abbrev d52 : Df := ⟨1, 2, b52⟩
end Pv
namespace Pv
open PySem L2 PySem.Spec PyProof.Rows
end Pv
namespace Pv
open PySem L2 PySem.Spec PyProof.Rows
end Pv
namespace Pv
open PySem L2 PySem.Spec PyProof.Rows
/-- _law_two_right(by) -/
abbrev b69 : (Nat → Cal) → DS := fun C => sSeq (sAsg 1 (vD (dTup (dCons (dTup (dCons (dK (.str ("ann" : Str))) (dCons (dVar 0) (dCons (shD (dBin addV (dVar 0) (dK (.int 2)))) (dNil))))) (dCons (dTup (dCons (dK (.str ("bob" : Str))) (dCons (shD (dBin addV (dVar 0) (dK (.int 8)))) (dCons (shD (dBin addV (dVar 0) (dK (.int 9)))) (dNil))))) (dCons (dTup (dCons (dK (.str ("cy" : Str))) (dCons (shD (dBin addV (dVar 0) (dK (.int 1)))) (dCons (shD (dBin addV (dVar 0) (dK (.int 9)))) (dNil))))) (dNil))))))) (sSeq (sAsg 2 (vD (dTup (dCons (dK (.str ("ann" : Str))) (dCons (dK (.str ("bob" : Str))) (dCons (dK (.str ("cy" : Str))) (dNil))))))) (sSeq (sAsg 3 (dDef (C 16) (vCons (dVar 1) (vCons (shD (dBin addV (dVar 0) (dK (.int 5)))) (vCons (shD (dLst (dCons (dK (.str ("ann" : Str))) (dCons (dK (.str ("bob" : Str))) (dCons (dK (.str ("cy" : Str))) (dCons (dK (.str ("ann" : Str))) (dNil))))))) (vNil)))))) (sSeq (sIf (tor (tnot (tst (dDef (C 3) (vCons (dVar 1) (vNil))))) (tst (dBin neV (dVar 3) (shD (dLst (dCons (shD (dBin addV (dVar 0) (dK (.int 2)))) (dCons (shD (dBin addV (dVar 0) (dK (.int 8)))) (dCons (shD (dBin addV (dVar 0) (dK (.int 8)))) (dCons (shD (dBin addV (dVar 0) (dK (.int 2)))) (dNil)))))))))) (sRet (vD (dK (.bool false)))) (sNil)) (sSeq (sIf (tst (dBin neV (shD (dDef (C 17) (vCons (dVar 1) (vCons (shD (dBin addV (dVar 0) (dK (.int 5)))) (vCons (shD (dLst (dCons (dK (.str ("ann" : Str))) (dCons (dK (.str ("bob" : Str))) (dNil))))) (vNil)))))) (dK (.int 9)))) (sRet (vD (dK (.bool false)))) (sNil)) (sSeq (sIf (tst (dBin neV (shD (dDef (C 18) (vCons (dVar 1) (vCons (shD (dLst (dCons (dK (.str ("cy" : Str))) (dNil)))) (vNil))))) (dTup (dCons (shD (dBin addV (dVar 0) (dK (.int 1)))) (dCons (shD (dBin addV (dVar 0) (dK (.int 9)))) (dNil)))))) (sRet (vD (dK (.bool false)))) (sNil)) (sSeq (sIf (tst (dBin neV (shD (dDef (C 18) (vCons (dVar 1) (vCons (shD (dLst (dCons (dK (.str ("bob" : Str))) (dCons (dK (.str ("ann" : Str))) (dNil))))) (vNil))))) (dTup (dCons (shD (dBin addV (dVar 0) (dK (.int 2)))) (dCons (shD (dBin addV (dVar 0) (dK (.int 2)))) (dNil)))))) (sRet (vD (dK (.bool false)))) (sNil)) (sSeq (sIf (tst (dBin neV (shD (dDef (C 28) (vCons (dVar 1) (vCons (dVar 2) (vNil))))) (dK (.int 12)))) (sRet (vD (dK (.bool false)))) (sNil)) (sSeq (sIf (tst (dBin neV (shD (dDef (C 29) (vCons (dVar 1) (vCons (shD (dBin addV (dVar 0) (dK (.int 5)))) (vCons (dVar 2) (vCons (shD (dBin powV (dK (.int 10)) (dK (.int 18)))) (vNil))))))) (shD (dBin subV (shD (dBin mulV (dK (.int 12)) (shD (dBin powV (dK (.int 10)) (dK (.int 18)))))) (dK (.int 3)))))) (sRet (vD (dK (.bool false)))) (sNil)) (sSeq (sIf (tst (dBin neV (shD (dDef (C 27) (vCons (dVar 1) (vCons (shD (dBin addV (dVar 0) (dK (.int 5)))) (vCons (dVar 2) (vCons (dK (.int 7)) (vNil))))))) (shD (dBin addV (dVar 0) (dK (.int 8)))))) (sRet (vD (dK (.bool false)))) (sNil)) (sSeq (sIf (tor (tst (dBin neV (shD (dDef (C 27) (vCons (dVar 1) (vCons (dK (.int 3)) (vCons (dVar 2) (vCons (dK (.int 0)) (vNil))))))) (dK (.int 3)))) (tst (dBin neV (shD (dDef (C 29) (vCons (dVar 1) (vCons (dK (.int 3)) (vCons (dVar 2) (vCons (dK (.int 0)) (vNil))))))) (dK (.int 0))))) (sRet (vD (dK (.bool false)))) (sNil)) (sRet (dDef (C 70) (vCons (dVar 0) (vCons (dVar 1) (vCons (dVar 2) (vNil))))))))))))))))
abbrev d69 : Df := ⟨1, 4, b69⟩
/-- _law_three_right(by, my_folk, my_order) -/
abbrev b70 : (Nat → Cal) → DS := fun C => sSeq (sIf (tst (dBin neV (shD (dDef (C 36) (vCons (dVar 1) (vCons (dVar 2) (vNil))))) (shD (dComp [3] (dRng1 (dCons (dK (.int 40)) (dNil))) (gN 3) (yes) (shD (dBin mulV (dK (.int 2)) (shD (dCl intC (dCons (dChn leV ltV (shD (dBin addV (dVar 0) (dK (.int 2)))) (dVar 3) (shD (dBin addV (dVar 0) (dK (.int 8))))) (dNil)))))))))) (sRet (vD (dK (.bool false)))) (sNil)) (sSeq (sIf (tor (tst (dBin neV (shD (dDef (C 37) (vCons (dVar 1) (vCons (dVar 2) (vNil))))) (shD (dLst (dCons (dTup (dCons (dK (.str ("ann" : Str))) (dCons (dK (.int 6)) (dNil)))) (dCons (dTup (dCons (dK (.str ("bob" : Str))) (dCons (dK (.int 6)) (dNil)))) (dCons (dTup (dCons (dK (.str ("cy" : Str))) (dCons (dK (.int 0)) (dNil)))) (dNil)))))))) (tst (dBin neV (shD (dDef (C 52) (vCons (dVar 1) (vNil)))) (shD (dLst (dCons (dK (.int 12)) (dNil))))))) (sRet (vD (dK (.bool false)))) (sNil)) (sSeq (sIf (tor (tst (dBin neV (shD (dDef (C 41) (vCons (dVar 1) (vNil)))) (dK (.int 12)))) (tst (dBin neV (shD (dDef (C 49) (vCons (dVar 1) (vNil)))) (dK (.int 12))))) (sRet (vD (dK (.bool false)))) (sNil)) (sSeq (sIf (tst (dBin neV (shD (dDef (C 40) (vCons (dVar 1) (vNil)))) (shD (dDef (C 36) (vCons (dVar 1) (vCons (dVar 2) (vNil))))))) (sRet (vD (dK (.bool false)))) (sNil)) (sSeq (sAsg 4 (dLst (dCons (shD (dDef (C 42) (vCons (dVar 1) (vNil)))) (dCons (shD (dDef (C 50) (vCons (dVar 1) (vNil)))) (dNil))))) (sSeq (sFor (dIt (dVar 4)) (gN 5) (sIf (tst (dBin neV (shD (dCl srtC (dCons (dVar 5) (dNil)))) (shD (dLst (dCons (dK (.str ("ann" : Str))) (dCons (dK (.str ("bob" : Str))) (dCons (dK (.str ("cy" : Str))) (dNil)))))))) (sRet (vD (dK (.bool false)))) (sNil))) (sSeq (sIf (tor (tst (dBin neV (shD (dDef (C 55) (vCons (dVar 1) (vNil)))) (dTup (dCons (dK (.str ("cy" : Str))) (dNil))))) (tst (dBin neV (shD (dDef (C 54) (vCons (dVar 1) (vCons (dK (.str ("ann" : Str))) (vNil))))) (dK (.int 6))))) (sRet (vD (dK (.bool false)))) (sNil)) (sSeq (sIf (tor (tst (dBin neV (shD (dDef (C 57) (vCons (dVar 1) (vNil)))) (shD (dLst (dCons (dK (.str ("ann" : Str))) (dCons (dK (.str ("bob" : Str))) (dNil))))))) (tst (dBin innV (shD (dDef (C 58) (vCons (dVar 1) (vNil)))) (dK .none)))) (sRet (vD (dK (.bool false)))) (sNil)) (sSeq (sIf (tst (dBin neV (shD (dDef (C 60) (vCons (dVar 1) (vNil)))) (dK (.int 3)))) (sRet (vD (dK (.bool false)))) (sNil)) (sRet (dBin eqV (shD (dDef (C 59) (vCons (dVar 1) (vNil)))) (dTup (dCons (dK (.str ("ann" : Str))) (dNil)))))))))))))
abbrev d70 : Df := ⟨3, 6, b70⟩
end Pv
namespace Pv
open PySem L2 PySem.Spec PyProof.Rows
/-- most_order(folk) -/
abbrev b42 : (Nat → Cal) → DS := fun C => sSeq (sAsg 1 (dCl maxL (dCons (shD (dComp [2] (dRng1 (dCons (dK (.int 40)) (dNil))) (gN 2) (yes) (shD (dDef (C 39) (vCons (dVar 0) (vCons (dVar 2) (vNil))))))) (dNil)))) (sSeq (sAsg 3 (dSortK kHi (dVar 0))) (sSeq (sAsg 4 (dSortK kLo (dVar 0))) (sSeq (sPar [5, 6] (wCons (shD (dSl (dVar 3) (oNone) (oSome (dVar 1)))) (wCons (shD (dSl (dVar 4) (oNone) (oSome (dVar 1)))) (wNil)))) (sSeq (sAsg 7 (dCl srtC (dCons (shD (dComp [8, 9, 10] (dIt (dVar 0)) (gT [8, 9, 10]) (tst (dBin niV (dTup (dCons (dVar 8) (dCons (dVar 9) (dCons (dVar 10) (dNil))))) (shD (dBin addV (dVar 5) (dVar 6))))) (dTup (dCons (dVar 9) (dCons (dVar 8) (dNil)))))) (dNil)))) (sSeq (sAsgO 11 (dBin addV (shD (dBin addV (shD (dComp [12] (dIt (shD (dSl (dVar 5) (oNone) (oSome (dK (.int 1)))))) (gN 12) (yes) (shD (dBin ixV (dVar 12) (dK (.int 0)))))) (shD (dComp [9, 8] (dIt (dVar 7)) (gT [9, 8]) (yes) (dVar 8))))) (shD (dComp [12] (dIt (shD (dSl (dVar 6) (oNone) (oSome (dK (.int 1)))))) (gN 12) (yes) (shD (dBin ixV (dVar 12) (dK (.int 0)))))))) (sSeq (sFor (dZip (shD (dSl (dVar 5) (oSome (dK (.int 1))) (oNone))) (shD (dSl (dVar 6) (oSome (dK (.int 1))) (oNone)))) (gT [12, 13]) (sMut 11 extV (dCons (shD (dLst (dCons (shD (dBin ixV (dVar 12) (dK (.int 0)))) (dCons (shD (dBin ixV (dVar 13) (dK (.int 0)))) (dNil))))) (dNil)))) (sRet (dCl tupC (dCons (dBor 11) (dNil))))))))))
abbrev d42 : Df := ⟨1, 14, b42⟩
end Pv
namespace Pv
open PySem L2 PySem.Spec PyProof.Rows
end Pv
namespace Pv
open PySem L2 PySem.Spec PyProof.Rows
abbrev bl : (Nat → Cal) → DS := fun C => sSeq (sFor (dRng1 (dCons (dK (.int 3)) (dNil))) (gN 2) (sIf (tor (tnot (tst (dDef (C 69) (vCons (shD (dDef (C 4) (vTap 1 (vCons (dK (.int 31)) (vNil))))) (vNil))))) (tnot (tst (dDef (C 71) (vCons (shD (dDef (C 4) (vTap 1 (vCons (dK (.int 33)) (vNil))))) (vNil)))))) (sRet (vD (dK (.bool false)))) (sNil))) (sSeq (sAsg 3 (vD (dTup (dCons (dTup (dCons (dK (.str ("zed" : Str))) (dCons (dK (.int 4)) (dCons (dK (.int 9)) (dNil))))) (dNil))))) (sSeq (sAsg 4 (dLst (dCons (shD (dDef (C 41) (vCons (dVar 3) (vNil)))) (dCons (shD (dDef (C 49) (vCons (dVar 3) (vNil)))) (dCons (shD (dDef (C 52) (vCons (dVar 3) (vNil)))) (dCons (shD (dDef (C 55) (vCons (dVar 3) (vNil)))) (dCons (shD (dDef (C 54) (vCons (dVar 3) (vCons (dK (.str ("zed" : Str))) (vNil))))) (dCons (shD (dDef (C 57) (vCons (dVar 3) (vNil)))) (dNil))))))))) (sSeq (sAsg 4 (dBin addV (dVar 4) (shD (dLst (dCons (shD (dDef (C 59) (vCons (dVar 3) (vNil)))) (dCons (shD (dDef (C 58) (vCons (dVar 3) (vNil)))) (dCons (shD (dDef (C 60) (vCons (dVar 3) (vNil)))) (dNil)))))))) (sRet (dDef (C 7) (vCons (dVar 4) (vCons (shD (dLst (dCons (dK (.int 0)) (dCons (dK (.int 0)) (dCons (shD (dLst (dCons (dK (.int 0)) (dNil)))) (dCons (dTup (dCons (dK (.str ("zed" : Str))) (dNil))) (dCons (dK (.int 0)) (dCons (dK .none) (dCons (dTup (dNil)) (dCons (dTup (dCons (dK (.int 4)) (dCons (dK (.int 9)) (dNil)))) (dCons (dK (.int 0)) (dNil)))))))))))) (vNil))))))))
def tb : Nat → Option Df
  | 0 => some d0
  | 1 => some d1
  | 2 => some d2
  | 3 => some d3
  | 15 => some d15
  | 16 => some d16
  | 17 => some d17
  | 18 => some d18
  | 26 => some d26
  | 27 => some d27
  | 28 => some d28
  | 29 => some d29
  | 35 => some d35
  | 36 => some d36
  | 37 => some d37
  | 46 => some d46
  | 47 => some d47
  | 48 => some d48
  | 39 => some d39
  | 40 => some d40
  | 41 => some d41
  | 49 => some d49
  | 42 => some d42
  | 50 => some d50
  | 51 => some d51
  | 52 => some d52
  | 54 => some d54
  | 55 => some d55
  | 57 => some d57
  | 58 => some d58
  | 59 => some d59
  | 60 => some d60
  | 4 => some d4
  | 7 => some d7
  | 69 => some d69
  | 70 => some d70
  | 71 => some d71
  | _ => none
end Pv
namespace Pv
open PySem L2 PySem.Spec PyProof.Rows
section
variable {α β : Type} {a : α} {τ τ' : Tp} {env : Ev} {i j : Nat} {d x y : D} {f k m : DD} {F G : DE} {ct : DT} {ka : DA} {kv : DV} {kw : DW} {s t : DS} {C : Cal} {it : DI} {b : DG}
@[simp] theorem bnd_s {k : α → Tp → Option β} : bnd (some (a, τ)) k = k a τ := rfl
@[simp] theorem dK_s : dK d env τ = some (d, τ) := rfl
@[simp] theorem dVar_s : dVar i env τ = (match env[i]? with
  | some (some (.sh d)) => some (d, τ)
  | _ => none) := rfl
@[simp] theorem dBor_s : dBor i env τ = (match env[i]? with
  | some (some (.sh d)) => some (d, τ)
  | some (some (.ow ds)) => some (.list ds, τ)
  | _ => none) := rfl
@[simp] theorem dTap_s : dTap i env τ = (match env[i]? with
  | some (some .tp) => some (.tp, τ)
  | _ => none) := rfl
@[simp] theorem dMb_s : dMb i env τ = (match env[i]? with
  | some (some v) => some (v, τ)
  | _ => none) := rfl
@[simp] theorem vD_s : vD f env τ = bnd (f env τ) fun d τ' => some (.sh d, τ') := rfl
@[simp] theorem shD_s : shD F env τ = bnd (F env τ) fun v τ' => match v with
  | .sh d => some (d, τ')
  | .ow ds => some (.list ds, τ')
  | _ => none := rfl
@[simp] theorem dNil_s : dNil env τ = some ([], τ) := rfl
@[simp] theorem dCons_s : dCons f ka env τ = bnd (f env τ) fun x τ1 => bnd (ka env τ1) fun xs τ2 => some (x :: xs, τ2) := rfl
@[simp] theorem vNil_s : vNil env τ = some ([], τ) := rfl
@[simp] theorem vCons_s : vCons f kv env τ = bnd (f env τ) fun x τ1 => bnd (kv env τ1) fun xs τ2 => some (.sh x :: xs, τ2) := rfl
@[simp] theorem vTap_s : vTap i kv env τ = bnd (dTap i env τ) fun _ τ1 => bnd (kv env τ1) fun xs τ2 => some (.tp :: xs, τ2) := rfl
@[simp] theorem wNil_s : wNil env τ = some ([], τ) := rfl
@[simp] theorem wCons_s : wCons f kw env τ = bnd (f env τ) fun x τ1 => bnd (kw env τ1) fun xs τ2 => some (.sh x :: xs, τ2) := rfl
@[simp] theorem wConsO_s : wConsO F kw env τ = bnd (F env τ) fun x τ1 => bnd (kw env τ1) fun xs τ2 => if x.own = true then some (x :: xs, τ2) else none := rfl
@[simp] theorem dTup_s : dTup ka env τ = bnd (ka env τ) fun xs τ' => if xs.length ≤ 1000 then some (.tuple xs, τ') else none := rfl
@[simp] theorem dLst_s : dLst ka env τ = bnd (ka env τ) fun xs τ' => if xs.length ≤ 1000 then some (.ow xs, τ') else none := rfl
@[simp] theorem dBin_s {o : D → D → Option Vl} : dBin o f k env τ = bnd (f env τ) fun x τ1 => bnd (k env τ1) fun y τ2 => (o x y).map (·, τ2) := rfl
@[simp] theorem dCl_s {o : List D → Option Vl} : dCl o ka env τ = bnd (ka env τ) fun ds τ1 => (o ds).map (·, τ1) := rfl
@[simp] theorem dDef_s : dDef C kv env τ = bnd (kv env τ) fun as τ1 => C as τ1 := rfl
@[simp] theorem dDefB_s : dDefB C ka env τ = bnd (ka env τ) fun as τ1 => bnd (C (as.map .sh) τ1) fun v τ2 => if flat v = true then some (v, τ2) else none := rfl
@[simp] theorem dNeg_s : dNeg f env τ = bnd (f env τ) fun x τ1 => match x with
  | .int i => some (.int (-i), τ1)
  | _ => none := rfl
@[simp] theorem dTapIx_s : dTapIx i j env τ = (match env[i]? with
  | some (some .tp) => match j with
    | 0 => some (.list (τ.sc.map .int), τ)
    | 1 => some (.int τ.pos, τ)
    | 2 => some (.int τ.cell, τ)
    | _ => none
  | _ => none) := rfl
@[simp] theorem oNone_s : oNone env τ = some (none, τ) := rfl
@[simp] theorem oSome_s : oSome f env τ = bnd (f env τ) fun x τ1 => match x with
  | .int i => some (some i, τ1)
  | _ => none := rfl
@[simp] theorem dSl_s {l h : DO} : dSl f l h env τ = bnd (f env τ) fun x τ1 => bnd (l env τ1) fun lo τ2 => bnd (h env τ2) fun hi τ3 => (slD x lo hi).map (·, τ3) := rfl
@[simp] theorem tst_s : tst F env τ = bnd (F env τ) fun v τ' => match v with
  | .sh (.bool b) => some (b, τ')
  | _ => none := rfl
@[simp] theorem tstD_s : tstD f env τ = bnd (f env τ) fun v τ' => match v with
  | .bool b => some (b, τ')
  | _ => none := rfl
@[simp] theorem dChn_s {o1 o2 : D → D → Option Vl} : dChn o1 o2 f k m env τ = bnd (f env τ) fun x τ1 => bnd (k env τ1) fun y τ2 => match o1 x y with
  | some (.sh (.bool true)) => bnd (m env τ2) fun z τ3 => match o2 y z with
    | some (.sh (.bool c)) => some (.bool c, τ3)
    | _ => none
  | some (.sh (.bool false)) => some (.bool false, τ2)
  | _ => none := rfl
@[simp] theorem tnot_s : tnot ct env τ = bnd (ct env τ) fun b τ' => some (!b, τ') := rfl
@[simp] theorem tand_s {c2 : DT} : tand ct c2 env τ = bnd (ct env τ) fun b τ' => if b = true then c2 env τ' else some (false, τ') := rfl
@[simp] theorem tor_s {c2 : DT} : tor ct c2 env τ = bnd (ct env τ) fun b τ' => if b = true then some (true, τ') else c2 env τ' := rfl
@[simp] theorem dnot_s : dnot ct env τ = bnd (ct env τ) fun b τ' => some (.bool (!b), τ') := rfl
@[simp] theorem dand_s : dand f k env τ = bnd (f env τ) fun x τ' => match x with
  | .bool true => k env τ'
  | .bool false => some (.bool false, τ')
  | _ => none := rfl
@[simp] theorem dor_s : dor f k env τ = bnd (f env τ) fun x τ' => match x with
  | .bool false => k env τ'
  | .bool true => some (.bool true, τ')
  | _ => none := rfl
@[simp] theorem dif_s : dif ct f k env τ = bnd (ct env τ) fun b τ' => if b = true then f env τ' else k env τ' := rfl
@[simp] theorem vif_s : vif ct F G env τ = bnd (ct env τ) fun b τ' => if b = true then F env τ' else G env τ' := rfl
@[simp] theorem dIsi_s {t : Ty} : dIsi t f env τ = bnd (f env τ) fun d τ1 => some (.bool (isB d t), τ1) := rfl
@[simp] theorem dIsi2_s {t u : Ty} : dIsi2 t u f env τ = bnd (f env τ) fun d τ1 => some (.bool (isB d t || isB d u), τ1) := rfl
@[simp] theorem dGet_s : dGet F k env τ = bnd (F env τ) fun v τ1 => bnd (k env τ1) fun d τ2 => match getM v d with
  | some (some x) => some (x, τ2)
  | _ => none := rfl
@[simp] theorem dHas_s {n : Bool} : dHas n k F env τ = bnd (k env τ) fun d τ1 => bnd (F env τ1) fun v τ2 => match getM v d with
  | some o => some (.bool (o.isSome != n), τ2)
  | none => none := rfl
@[simp] theorem dNewK_s : dNewK env τ = some (.dk [], τ) := rfl
@[simp] theorem dDisp1_s : dDisp1 k f env τ = bnd (k env τ) fun d τ1 => bnd (f env τ1) fun x τ2 => match keyD d with
  | some c => some (.dk [(c, x)], τ2)
  | none => none := rfl
@[simp] theorem dDictL_s : dDictL f env τ = bnd (f env τ) fun d τ1 => match d with
  | .list ds => match pairsK ds with
    | some prs => some (.dk (mergeD [] prs), τ1)
    | none => none
  | _ => none := rfl
@[simp] theorem dLenM_s : dLenM F env τ = bnd (F env τ) fun v τ1 => match v with
  | .dk kvs => some (.int kvs.length, τ1)
  | _ => none := rfl
@[simp] theorem dIt_s : dIt f env τ = bnd (f env τ) fun d τ' => match d with
  | .list ds => some (ds, τ')
  | .tuple ds => some (ds, τ')
  | .str z => if z.cps.size ≤ 16777216 then some (signs z, τ') else none
  | _ => none := rfl
@[simp] theorem dZip_s : dZip f k env τ = bnd (f env τ) fun x τ1 => bnd (k env τ1) fun y τ2 => match itemsD x, itemsD y with
  | some xs, some ys => some (zipD xs ys, τ2)
  | _, _ => none := rfl
@[simp] theorem dRng1_s : dRng1 ka env τ = bnd (ka env τ) fun ds τ' => match ds with
  | [.int j] => if j ≤ 16777216 ∧ -16777216 ≤ j then some (rngL 0 j.toNat, τ') else none
  | _ => none := rfl
@[simp] theorem dRng2_s : dRng2 ka env τ = bnd (ka env τ) fun ds τ' => match ds with
  | [.int i, .int j] => if j ≤ 16777216 ∧ -16777216 ≤ j ∧ i ≤ 16777216 ∧ -16777216 ≤ i ∧ j - i ≤ 16777216 then some (rngL i (j - i).toNat, τ') else none
  | _ => none := rfl
@[simp] theorem yes_s : yes env τ = some (true, τ) := rfl
@[simp] theorem gN_s : gN i d env = some (env.set i (some (.sh d))) := rfl
@[simp] theorem gT_s {is : List Nat} : gT is d env = (match d with
  | .tuple ds => if ds.length = is.length then some ((is.zip ds).foldl (fun e p => e.set p.1 (some (.sh p.2))) env) else none
  | _ => none) := rfl
@[simp] theorem dComp_s {vs : List Nat} {c : DT} {e : DD} : dComp vs it b c e env τ = bnd (it env τ) fun ds τ1 => bnd (compL b c e ds (wipeE env vs) τ1) fun ys τ2 => some (.ow ys, τ2) := rfl
@[simp] theorem dDc_s {vs : List Nat} {c : DT} {k e : DD} : dDc vs it b c k e env τ = bnd (it env τ) fun ds τ1 => bnd (dcL b c k e ds [] (wipeE env vs) τ1) fun kvs τ2 => some (.dk kvs, τ2) := rfl
/- statements -/
@[simp] theorem sNil_s : sNil env τ = some (.nx env, τ) := rfl
@[simp] theorem sSeq_s : sSeq s t env τ = bnd (s env τ) fun o τ' => match o with
  | .nx env' => t env' τ'
  | o => some (o, τ') := rfl
@[simp] theorem sIf_s : sIf ct s t env τ = bnd (ct env τ) fun x τ' => if x = true then s env τ' else t env τ' := rfl
@[simp] theorem sRet_s : sRet F env τ = bnd (F env τ) fun v τ' => match v with
  | .tp => none
  | v => some (.rt v, τ') := rfl
@[simp] theorem sRetO_s : sRetO i env τ = (match env[i]? with
  | some (some .tp) => none
  | some (some v) => some (.rt v, τ)
  | _ => none) := rfl
@[simp] theorem sAsg_s : sAsg i F env τ = bnd (shD F env τ) fun d τ' => some (.nx (env.set i (some (.sh d))), τ') := rfl
@[simp] theorem sAsgO_s : sAsgO i F env τ = bnd (F env τ) fun v τ' => if v.own = true then some (.nx (env.set i (some v)), τ') else none := rfl
@[simp] theorem sUnp_s : sUnp b f env τ = bnd (f env τ) fun d τ' => (b d env).map fun env' => (.nx env', τ') := rfl
@[simp] theorem sPar_s {is : List Nat} : sPar is kw env τ = bnd (kw env τ) fun vs τ' => if vs.length = is.length then some (.nx (setV is vs env), τ') else none := rfl
@[simp] theorem frz_s : frz i s env τ = (match env[i]? with
  | some (some (.ow ds)) => s (env.set i (some (.sh (.list ds)))) τ
  | _ => s env τ) := rfl
@[simp] theorem sMut_s {mV : List D → List D → Option (List D)} : sMut i mV ka env τ = bnd (ka env τ) fun as τ' => match env[i]? with
  | some (some (.ow ds)) => match mV ds as with
    | some ds' => some (.nx (env.set i (some (.ow ds'))), τ')
    | none => none
  | _ => none := rfl
@[simp] theorem sPutM_s : sPutM i f k env τ = bnd (f env τ) fun x τ1 => bnd (k env τ1) fun d τ2 => match env[i]? with
  | some (some v) => match putM v d x with
    | some v' => some (.nx (env.set i (some v')), τ2)
    | none => none
  | _ => none := rfl
@[simp] theorem sFor_s : sFor it b s env τ = bnd (it env τ) fun ds τ1 => forL b s ds env τ1 := rfl
@[simp] theorem own_sh : (Vl.sh d).own = false := rfl
@[simp] theorem own_ow {ds : List D} : (Vl.ow ds).own = true := rfl
@[simp] theorem own_dk {ds : List (Key × D)} : (Vl.dk ds).own = true := rfl
@[simp] theorem setV_nil : setV [] [] env = env := rfl
@[simp] theorem setV_cons {is : List Nat} {v : Vl} {vs : List Vl} : setV (i :: is) (v :: vs) env = setV is vs (env.set i (some v)) := rfl
@[simp] theorem wipeE_nil : wipeE env [] = env := rfl
@[simp] theorem wipeE_cons {vs : List Nat} {v : Nat} : wipeE env (v :: vs) = (wipeE env vs).set v none := rfl
end
@[simp] theorem add_ii {i j : Int} : addV (.int i) (.int j) = some (.sh (.int (i + j))) := rfl
@[simp] theorem sub_ii {i j : Int} : subV (.int i) (.int j) = some (.sh (.int (i - j))) := rfl
@[simp] theorem le_ii {i j : Int} : leV (.int i) (.int j) = some (.sh (.bool (decide (i ≤ j)))) := rfl
@[simp] theorem gt_ii {i j : Int} : gtV (.int i) (.int j) = some (.sh (.bool (decide (j < i)))) := rfl
@[simp] theorem ge_ii {i j : Int} : geV (.int i) (.int j) = some (.sh (.bool (decide (j ≤ i)))) := rfl
@[simp] theorem max2_ii {i j : Int} : max2 [.int i, .int j] = some (.sh (.int (max i j))) := by
  show some (Vl.sh (.int (if j > i then j else i))) = _
  congr 3; split <;> omega
@[simp] theorem min2_ii {i j : Int} : min2 [.int i, .int j] = some (.sh (.int (min i j))) := by
  show some (Vl.sh (.int (if j < i then j else i))) = _
  congr 3; split <;> omega
@[simp] theorem len_l {xs : List D} : lenV [.list xs] = some (.sh (.int xs.length)) := rfl
@[simp] theorem len_t {xs : List D} : lenV [.tuple xs] = some (.sh (.int xs.length)) := rfl
@[simp] theorem abs_i {i : Int} : absC [.int i] = some (.sh (.int (absI i))) := rfl
@[simp] theorem list_l {xs : List D} : listC [.list xs] = some (.ow xs) := rfl
@[simp] theorem list_t {xs : List D} : listC [.tuple xs] = some (.ow xs) := rfl
@[simp] theorem tup_l {xs : List D} : tupC [.list xs] = some (.sh (.tuple xs)) := rfl
@[simp] theorem tup_t {xs : List D} : tupC [.tuple xs] = some (.sh (.tuple xs)) := rfl
theorem depth_int {i : Int} : (PyData.int i).depth ≤ 60 := by simp [PyData.depth]
@[simp] theorem lt_ii {i j : Int} : ltV (.int i) (.int j) = some (.sh (.bool (decide (i < j)))) := by
  unfold ltV
  rw [if_pos ⟨rfl, rfl, by simp [PyData.depth]⟩, W.dataLt_int]
/-! ### equality -/
mutual
theorem eqv_refl : ∀ d : D, pln d = true → PyData.eqv d d = true
  | .none, _ => rfl
  | .bool b, _ => by simp [PyData.eqv]
  | .int i, _ => by simp [PyData.eqv]
  | .str x, _ => by simp [PyData.eqv]
  | .list xs, h => by rw [PyData.eqv]; exact eqvAll_refl xs h
  | .tuple xs, h => by rw [PyData.eqv]; exact eqvAll_refl xs h
  | .dict _, h => by cases h
theorem eqvAll_refl : ∀ ds : List D, plns ds = true → PyData.eqvAll ds ds = true
  | [], _ => rfl
  | d :: ds, h => by
    have h : (pln d && plns ds) = true := h
    rw [Bool.and_eq_true] at h
    rw [PyData.eqvAll, eqv_refl d h.1, eqvAll_refl ds h.2]
    rfl
end
mutual
/-- no truth, no dict within -/
def nb : D → Bool
  | .none => true | .bool _ => false | .int _ => true | .str _ => true
  | .list xs => nbs xs | .tuple xs => nbs xs
  | .dict _ => false
def nbs : List D → Bool
  | [] => true
  | x :: xs => nb x && nbs xs
end
mutual
theorem eqv_eq : ∀ (d e : D), nb d = true → nb e = true → PyData.eqv d e = true → d = e
  | .none, e, _, he, h => by cases e <;> simp_all [PyData.eqv, nb]
  | .bool b, _, hd, _, _ => by cases hd
  | .int i, e, _, he, h => by cases e <;> simp_all [PyData.eqv, nb]
  | .str x, e, _, he, h => by cases e <;> simp_all [PyData.eqv, nb]
  | .list xs, e, hd, he, h => by
    cases e with
    | list ys => rw [PyData.eqv] at h; rw [eqvAll_eq xs ys hd he h]
    | _ => simp [PyData.eqv] at h
  | .tuple xs, e, hd, he, h => by
    cases e with
    | tuple ys => rw [PyData.eqv] at h; rw [eqvAll_eq xs ys hd he h]
    | _ => simp [PyData.eqv] at h
  | .dict _, _, hd, _, _ => by cases hd
theorem eqvAll_eq : ∀ (ds es : List D), nbs ds = true → nbs es = true → PyData.eqvAll ds es = true → ds = es
  | [], [], _, _, _ => rfl
  | [], _ :: _, _, _, h => by simp [PyData.eqvAll] at h
  | _ :: _, [], _, _, h => by simp [PyData.eqvAll] at h
  | d :: ds, e :: es, hd, he, h => by
    have hd : (nb d && nbs ds) = true := hd
    have he : (nb e && nbs es) = true := he
    rw [Bool.and_eq_true] at hd he
    rw [PyData.eqvAll, Bool.and_eq_true] at h
    rw [eqv_eq d e hd.1 he.1 h.1, eqvAll_eq ds es hd.2 he.2 h.2]
end
mutual
theorem nb_pln : ∀ d : D, nb d = true → pln d = true
  | .none, _ => rfl
  | .bool _, h => by cases h
  | .int _, _ => rfl
  | .str _, _ => rfl
  | .list xs, h => nbs_plns xs h
  | .tuple xs, h => nbs_plns xs h
  | .dict _, h => by cases h
theorem nbs_plns : ∀ ds : List D, nbs ds = true → plns ds = true
  | [], _ => rfl
  | d :: ds, h => by
    have h : (nb d && nbs ds) = true := h
    rw [Bool.and_eq_true] at h
    show (pln d && plns ds) = true
    rw [nb_pln d h.1, nbs_plns ds h.2]
    rfl
end
theorem eqv_iff {d e : D} (hd : nb d = true) (he : nb e = true) : PyData.eqv d e = true ↔ d = e :=
  ⟨eqv_eq d e hd he, fun h => by subst h; exact eqv_refl d (nb_pln d hd)⟩
@[simp] theorem eq_ii {i j : Int} : eqV (.int i) (.int j) = some (.sh (.bool (decide (i = j)))) := by
  unfold eqV
  rw [if_pos (by simp [PyData.depth])]
  simp only [PyData.eqv]
  by_cases h : i = j
  · subst h; simp
  · rw [beq_eq_false_iff_ne.mpr h, decide_eq_false h]
@[simp] theorem ne_ii {i j : Int} : neV (.int i) (.int j) = some (.sh (.bool (decide (i ≠ j)))) := by
  unfold neV
  rw [if_pos (by simp [PyData.depth])]
  simp only [PyData.eqv]
  by_cases h : i = j
  · subst h; simp
  · rw [beq_eq_false_iff_ne.mpr h, decide_eq_true h]
    rfl
theorem eq_true {d : D} (h : pln d = true) (hd : d.depth ≤ 60) : eqV d d = some (.sh (.bool true)) := by
  unfold eqV
  rw [if_pos (by rw [Nat.min_self]; exact hd), eqv_refl d h]
theorem ne_false {d : D} (h : pln d = true) (hd : d.depth ≤ 60) : neV d d = some (.sh (.bool false)) := by
  unfold neV
  rw [if_pos (by rw [Nat.min_self]; exact hd), eqv_refl d h]
  rfl
/-! ### loops -/
theorem forL_ind {b : DG} {body : DS} (I : Nat → Ev → Tp → Prop) : ∀ {ds : List D} {i : Nat} {env : Ev} {τ : Tp}, I i env τ →
    (∀ (j : Nat) d env τ, ds[j]? = some d → I (i + j) env τ → ∃ env1 env2 τ', b d env = some env1 ∧ (body env1 τ = some (.nx env2, τ') ∨ body env1 τ = some (.ct env2, τ')) ∧ I (i + j + 1) env2 τ') →
    ∃ env' τ', forL b body ds env τ = some (.nx env', τ') ∧ I (i + ds.length) env' τ'
  | [], i, env, τ, h0, _ => ⟨env, τ, rfl, h0⟩
  | d :: ds, i, env, τ, h0, step => by
    obtain ⟨env1, env2, τ1, h1, h2, h3⟩ := step 0 d env τ rfl h0
    obtain ⟨env', τ', h4, h5⟩ := forL_ind (b := b) (body := body) I (ds := ds) (i := i + 1) h3 fun j e env τ hj hI => by
      have := step (j + 1) e env τ (by simpa using hj) (by rw [show i + (j + 1) = i + 1 + j by omega]; exact hI)
      rw [show i + (j + 1) + 1 = i + 1 + j + 1 by omega] at this
      exact this
    refine ⟨env', τ', ?_, by rw [List.length_cons, show i + (ds.length + 1) = i + 1 + ds.length by omega]; exact h5⟩
    rcases h2 with h2 | h2
    · rw [forL, h1]
      show bnd (body env1 τ) _ = _
      rw [h2]
      exact h4
    · rw [forL, h1]
      show bnd (body env1 τ) _ = _
      rw [h2]
      exact h4
theorem forL_cons {b : DG} {body : DS} {d : D} {ds : List D} {env env1 : Ev} {τ : Tp} (h : b d env = some env1) : forL b body (d :: ds) env τ = bnd (body env1 τ) fun o τ1 => match o with
      | .nx env2 => forL b body ds env2 τ1
      | .ct env2 => forL b body ds env2 τ1
      | .bk env2 => some (.nx env2, τ1)
      | .rt v => some (.rt v, τ1) := by
  rw [forL, h] <;> rfl
theorem compL_cons {b : DG} {c : DT} {e : DD} {d : D} {ds : List D} {env env1 : Ev} {τ : Tp} (h : b d env = some env1) : compL b c e (d :: ds) env τ = bnd (c env1 τ) fun k τ1 => if k = true then bnd (e env1 τ1) fun y τ2 => bnd (compL b c e ds env τ2) fun ys τ3 => some (y :: ys, τ3) else compL b c e ds env τ1 := by
  rw [compL, h]
@[simp] theorem compL_nil {b : DG} {c : DT} {e : DD} {env : Ev} {τ : Tp} : compL b c e [] env τ = some ([], τ) := rfl
@[simp] theorem forL_nil {b : DG} {body : DS} {env : Ev} {τ : Tp} : forL b body [] env τ = some (.nx env, τ) := rfl
/-- a comprehension that leaves the tape -/
theorem compL_pure {b : DG} {c : DT} {e : DD} {env : Ev} (p : D → Bool) (f : D → D) : ∀ {ds : List D}, (∀ x ∈ ds, ∃ env1, b x env = some env1 ∧ ∀ τ, c env1 τ = some (p x, τ) ∧ (p x = true → e env1 τ = some (f x, τ))) → ∀ τ, compL b c e ds env τ = some ((ds.filter p).map f, τ)
  | [], _, _ => rfl
  | x :: xs, h, τ => by
    obtain ⟨env1, h1, h2⟩ := h x List.mem_cons_self
    obtain ⟨h3, h4⟩ := h2 τ
    have ih := compL_pure p f (ds := xs) (fun y hy => h y (List.mem_cons_of_mem _ hy)) τ
    rw [compL_cons h1, h3, bnd_s]
    cases hp : p x with
    | true => rw [if_pos rfl, h4 hp, bnd_s, ih, bnd_s, List.filter_cons, if_pos hp, List.map_cons]
    | false => rw [if_neg (by simp), ih, List.filter_cons, if_neg (by rw [hp]; simp)]
theorem compL_map {b : DG} {e : DD} {env : Ev} (f : D → D) {ds : List D} (h : ∀ x ∈ ds, ∃ env1, b x env = some env1 ∧ ∀ τ, e env1 τ = some (f x, τ)) (τ : Tp) : compL b yes e ds env τ = some (ds.map f, τ) := by
  have := compL_pure (b := b) (c := yes) (e := e) (env := env) (fun _ => true) f (ds := ds) (fun x hx => by
    obtain ⟨env1, h1, h2⟩ := h x hx
    exact ⟨env1, h1, fun τ => ⟨rfl, fun _ => h2 τ⟩⟩) τ
  rw [this, List.filter_eq_self.mpr (fun _ _ => rfl)]
end Pv
namespace Pv
open PySem L2 PySem.Spec PyProof.Rows
theorem runF_s {np nn : Nat} {b : DS} {as : List Vl} {τ : Tp} (h : as.length = np) : runF np nn b as τ = bnd (b (startE nn as) τ) fun o τ' => match o with
    | .rt v => some (v, τ')
    | .nx _ => some (.sh .none, τ')
    | _ => none := by
  unfold runF
  rw [if_pos h] <;> rfl
section
variable {tb : Nat → Option Df} {k : Nat}
theorem call_s {i : Nat} {d : Df} {as : List Vl} {τ : Tp} (ht : tb i = some d) (h : as.length = d.np) : callK tb (k + 1) i as τ = bnd (d.body (callK tb k) (startE d.nn as) τ) fun o τ' => match o with
    | .rt v => some (v, τ')
    | .nx _ => some (.sh .none, τ')
    | _ => none := by
  rw [callK_succ ht, runF_s h]
@[simp] theorem mod_ii {i j : Int} (h : 0 < j) : modV (.int i) (.int j) = some (.sh (.int (i % j))) := by
  show (if 0 < j then _ else _) = _
  rw [if_pos h]
theorem fdiv_ii {i j : Int} (h : 0 < j) (h2 : j < 18446744073709551616) : fdivV (.int i) (.int j) = some (.sh (.int (i / j))) := by
  show (if 0 < j ∧ j < 18446744073709551616 then _ else _) = _
  rw [if_pos ⟨h, h2⟩]
theorem mul_l {i j : Int} (h : -18446744073709551616 < i) (h2 : i < 18446744073709551616) : mulV (.int i) (.int j) = some (.sh (.int (i * j))) := by
  show (if (-18446744073709551616 < i ∧ i < 18446744073709551616) ∨ (-18446744073709551616 < j ∧ j < 18446744073709551616) then _ else _) = _
  rw [if_pos (.inl ⟨h, h2⟩)]
theorem startE_s {nn : Nat} {as : List Vl} : startE nn as = as.map some ++ List.replicate (nn - as.length) none := rfl
theorem atI_sc {sc : List Int} {i : Int} (h0 : 0 ≤ i) (h1 : i < sc.length) : ∃ c, L2.atI (sc.map PyData.int) i = some (.int c) := by
  refine ⟨sc[i.toNat]'(by omega), ?_⟩
  have := atI_nat (xs := sc.map PyData.int) (j := i.toNat) (v := .int (sc[i.toNat]'(by omega))) (by rw [List.getElem?_map, List.getElem?_eq_getElem (by omega)]; rfl)
  rw [show ((i.toNat : Nat) : Int) = i by omega] at this
  exact this
abbrev dr0 : DS := sIf (tst (dBin gtV (shD (dCl lenV (dCons (dTapIx 0 0) (dNil)))) (dK (.int 0)))) (sAsg 3 (dBin ixV (dTapIx 0 0) (shD (dBin modV (dTapIx 0 1) (shD (dCl lenV (dCons (dTapIx 0 0) (dNil)))))))) (sNil)
abbrev dr1 : DS := sIf (tst (dBin ltV (dTapIx 0 2) (dVar 1))) (sSeq (sAsg 3 (vD (dK (.int 0)))) (sSeq (dr0) (sSeq (sIf (tor (tst (dBin geV (dTapIx 0 1) (shD (dCl lenV (dCons (dTapIx 0 0) (dNil)))))) (tst (dBin ltV (dVar 3) (shD (dBin powV (dK (.int 10)) (dK (.int 18))))))) (sSeq (sAsg 3 (dBin modV (shD (dBin addV (dVar 3) (shD (dBin mulV (dK (.int 1000003)) (dTapIx 0 1))))) (dVar 2))) (sSeq (sAsg 3 (dBin modV (shD (dBin addV (shD (dBin addV (shD (dBin mulV (dVar 3) (dVar 3))) (shD (dBin mulV (dK (.int 1181783497276652981)) (dVar 3))))) (dK (.int 2049848353892358983)))) (dVar 2))) (sAsg 3 (dBin modV (shD (dBin addV (shD (dBin mulV (dVar 3) (dVar 3))) (dK (.int 1442695040888963407)))) (dVar 2))))) (sNil)) (sSeq (sTap 0 1 (shD (dBin addV (dTapIx 0 1) (dK (.int 1))))) (sTap 0 2 (dVar 3)))))) (sNil)
abbrev dr2 : DS := sSeq (sAsg 4 (dBin modV (dTapIx 0 2) (dVar 1))) (sSeq (sTap 0 2 (shD (dBin fdivV (dTapIx 0 2) (dVar 1)))) (sRet (vD (dVar 4))))
/-- a number is drawn -/
theorem draw (ht : tb 4 = some d4) {m : Int} (h0 : 0 < m) (h1 : m < 18446744073709551616) (τ : Tp) : ∃ r τ', callK tb (k + 1) 4 [.tp, .sh (.int m)] τ = some (.sh (.int r), τ') ∧ 0 ≤ r ∧ r < m := by
  have fin : ∀ (env : Ev) (τ1 : Tp), env[0]? = some (some .tp) → env[1]? = some (some (.sh (.int m))) → 5 ≤ env.length → ∃ r τ', (bnd (dr2 env τ1) fun o τ' => match o with
    | .rt v => some (v, τ')
    | .nx _ => some (.sh .none, τ')
    | _ => none) = some (.sh (.int r), τ') ∧ 0 ≤ r ∧ r < m := fun env τ1 e0 e1 el => by
    have e2 : (env.set 4 (some (.sh (.int (τ1.cell % m)))))[0]? = some (some .tp) := by rw [List.getElem?_set_ne (by decide)]; exact e0
    have e3 : (env.set 4 (some (.sh (.int (τ1.cell % m)))))[1]? = some (some (.sh (.int m))) := by rw [List.getElem?_set_ne (by decide)]; exact e1
    have e4 : (env.set 4 (some (.sh (.int (τ1.cell % m)))))[4]? = some (some (.sh (.int (τ1.cell % m)))) := List.getElem?_set_self (by omega)
    refine ⟨τ1.cell % m, ⟨τ1.sc, τ1.pos, τ1.cell / m⟩, ?_, Int.emod_nonneg _ (by omega), Int.emod_lt_of_pos _ h0⟩
    simp [e0, e1, mod_ii h0, sTap, e2, e3, e4, fdiv_ii h0 h1]
  have h10 : powV (.int 10) (.int 18) = some (.sh (.int 1000000000000000000)) := by
    show (if (0 : Int) ≤ 18 ∧ (18 : Int) ≤ 1000000 ∧ (10 : Int).natAbs < 18446744073709551616 then some (Vl.sh (.int (10 ^ (18 : Int).toNat))) else none) = _
    rw [if_pos (by decide)]
    rfl
  have mp : ∀ i : Int, modV (.int i) (.int 2305843009213693951) = some (.sh (.int (i % 2305843009213693951))) := fun i => mod_ii (by decide)
  have m1 : ∀ i : Int, mulV (.int 1000003) (.int i) = some (.sh (.int (1000003 * i))) := fun i => mul_l (by decide) (by decide)
  have m2 : ∀ i : Int, mulV (.int 1181783497276652981) (.int i) = some (.sh (.int (1181783497276652981 * i))) := fun i => mul_l (by decide) (by decide)
  have m3 : ∀ i : Int, mulV (.int (i % 2305843009213693951)) (.int (i % 2305843009213693951)) = some (.sh (.int ((i % 2305843009213693951) * (i % 2305843009213693951)))) := fun i => by
    have h1 := Int.emod_nonneg i (b := 2305843009213693951) (by decide)
    have h2 := Int.emod_lt_of_pos i (b := 2305843009213693951) (by decide)
    exact mul_l (by omega) (by omega)
  rw [call_s ht rfl]
  have one : ∃ X τ1, dr1 [some .tp, some (.sh (.int m)), some (.sh (.int 2305843009213693951)), none, none] τ = some (.nx [some .tp, some (.sh (.int m)), some (.sh (.int 2305843009213693951)), X, none], τ1) := by
    by_cases hc : τ.cell < m
    · have inner : ∃ c : Int, dr0 [some .tp, some (.sh (.int m)), some (.sh (.int 2305843009213693951)), some (.sh (.int 0)), none] τ = some (.nx [some .tp, some (.sh (.int m)), some (.sh (.int 2305843009213693951)), some (.sh (.int c)), none], τ) := by
        by_cases hl : 0 < τ.sc.length
        · have hl2 : (0 : Int) < τ.sc.length := by omega
          obtain ⟨c, hc⟩ := atI_sc (sc := τ.sc) (i := τ.pos % (τ.sc.length : Int)) (Int.emod_nonneg _ (by omega)) (Int.emod_lt_of_pos _ hl2)
          exact ⟨c, by simp [hl2, hl, mod_ii hl2, ixV, ixD, hc]⟩
        · exact ⟨0, by simp [hl]⟩
      obtain ⟨c, hi⟩ := inner
      by_cases h5 : (τ.sc.length : Int) ≤ τ.pos
      · exact ⟨_, _, by simp only [sIf_s, tst_s, dBin_s, dTapIx_s, dVar_s, sSeq_s]; simp [hc]; simp only [sIf_s] at hi; simp at hi; simp [hi, h5, sTap, mp, m1, m2, m3]; exact ⟨rfl, rfl⟩⟩
      · by_cases h6 : c < 1000000000000000000
        · exact ⟨_, _, by simp only [sIf_s, tst_s, dBin_s, dTapIx_s, dVar_s, sSeq_s]; simp [hc]; simp only [sIf_s] at hi; simp at hi; simp [hi, h5, h6, h10, sTap, mp, m1, m2, m3]; exact ⟨rfl, rfl⟩⟩
        · exact ⟨_, _, by simp only [sIf_s, tst_s, dBin_s, dTapIx_s, dVar_s, sSeq_s]; simp [hc]; simp only [sIf_s] at hi; simp at hi; simp [hi, h5, h6, h10, sTap, mp, m1, m2, m3]; exact ⟨rfl, rfl⟩⟩
    · exact ⟨none, τ, by simp [hc]⟩
  obtain ⟨X, τ1, g1⟩ := one
  obtain ⟨r, τ', g2, g3⟩ := fin [some .tp, some (.sh (.int m)), some (.sh (.int 2305843009213693951)), X, none] τ1 rfl rfl (by simp)
  refine ⟨r, τ', ?_, g3⟩
  have e : d4.body (callK tb k) (startE d4.nn [.tp, .sh (.int m)]) τ = bnd (dr1 [some .tp, some (.sh (.int m)), some (.sh (.int 2305843009213693951)), none, none] τ) fun o τ' => match o with
    | .nx env' => dr2 env' τ'
    | o => some (o, τ') := rfl
  rw [e, g1]
  exact g2
end
end Pv
namespace Pv
open PySem L2 PySem.Spec PyProof.Rows
def sca : D → Bool
  | .none => true | .bool _ => true | .int _ => true | .str _ => true | _ => false
/-- data of that depth, no list too long -/
def Lk : Nat → D → Prop
  | 0, d => sca d = true
  | n + 1, d => sca d = true ∨ ∃ xs : List D, (d = .list xs ∨ d = .tuple xs) ∧ xs.length ≤ 16777216 ∧ ∀ x ∈ xs, Lk n x
theorem Lk.up {n : Nat} : ∀ {d : D}, Lk n d → Lk (n + 1) d := by
  induction n with
  | zero => exact fun h => .inl h
  | succ n ih =>
    intro d h
    rcases h with h | ⟨xs, h1, h2, h3⟩
    · exact .inl h
    · exact .inr ⟨xs, h1, h2, fun x hx => ih (h3 x hx)⟩
theorem Lk.le {n m : Nat} {d : D} (h : Lk n d) (hm : n ≤ m) : Lk m d := by
  induction hm with
  | refl => exact h
  | step _ ih => exact ih.up
@[simp] theorem ne_bb {a b : Bool} : neV (.bool a) (.bool b) = some (.sh (.bool (a != b))) := by
  unfold neV
  rw [if_pos (by simp [PyData.depth])]
  simp only [PyData.eqv]
  cases a <;> cases b <;> rfl
@[simp] theorem eq_bb {a b : Bool} : eqV (.bool a) (.bool b) = some (.sh (.bool (a == b))) := by
  unfold eqV
  rw [if_pos (by simp [PyData.depth])]
  simp only [PyData.eqv]
theorem atI_mem {xs : List D} {i : Nat} (h : i < xs.length) : L2.atI xs (i : Int) = some xs[i] := atI_nat (List.getElem?_eq_getElem h)
theorem rng_mem {lo : Int} {n : Nat} {x : D} (h : x ∈ rngL lo n) : ∃ i : Nat, i < n ∧ x = .int (lo + i) := by
  unfold rngL at h
  obtain ⟨i, hi, rfl⟩ := List.mem_map.mp h
  exact ⟨i, List.mem_range.mp hi, rfl⟩
section
variable {tb : Nat → Option Df}
theorem like (ht : tb 7 = some d7) : ∀ (n : Nat) (d : D), Lk n d → ∀ (k : Nat) τ, callK tb (k + n + 1) 7 [.sh d, .sh d] τ = some (.sh (.bool true), τ) := by
  have scalar : ∀ (d : D), sca d = true → ∀ (k : Nat) τ, callK tb (k + 1) 7 [.sh d, .sh d] τ = some (.sh (.bool true), τ) := fun d h k τ => by
    rw [call_s ht rfl]
    have he : eqV d d = some (.sh (.bool true)) := by
      refine eq_true ?_ ?_
      · cases d <;> first | rfl | cases h
      · cases d <;> first | (simp [PyData.depth]; done) | cases h
    have h1 : isB d .list = false := by cases d <;> first | rfl | cases h
    have h2 : isB d .tuple = false := by cases d <;> first | rfl | cases h
    simp [startE_s, h1, h2, he]
  intro n
  induction n with
  | zero => exact scalar
  | succ n ih =>
    intro d h k τ
    rcases h with h | ⟨xs, h1, h2, h3⟩
    · exact scalar d h _ τ
    · rw [call_s ht rfl]
      have hl : (xs.length : Int) ≤ 16777216 := by omega
      have h0 : (-16777216 : Int) ≤ xs.length := by omega
      have comp : ∀ (w : Option Vl) τ, compL (gN 2) (tnot (tst (dDef (callK tb (k + (n + 1))  7) (vCons (shD (dBin ixV (dVar 0) (dVar 2))) (vCons (shD (dBin ixV (dVar 1) (dVar 2))) (vNil)))))) (dVar 2) (rngL 0 xs.length) [some (.sh d), some (.sh d), w] τ = some ([], τ) := fun w τ => by
        have := compL_pure (b := gN 2) (c := tnot (tst (dDef (callK tb (k + (n + 1)) 7) (vCons (shD (dBin ixV (dVar 0) (dVar 2))) (vCons (shD (dBin ixV (dVar 1) (dVar 2))) (vNil)))))) (e := dVar 2) (env := [some (.sh d), some (.sh d), w]) (fun _ => false) id (ds := rngL 0 xs.length) (fun x hx => ?_) τ
        · rw [this]; simp
        · obtain ⟨i, hi, rfl⟩ := rng_mem hx
          refine ⟨_, rfl, fun τ => ⟨?_, fun z => by cases z⟩⟩
          have e6 : ixV d (.int (i : Int)) = some (.sh xs[i]) := by
            rcases h1 with rfl | rfl
            · show (L2.atI xs (i : Int)).map Vl.sh = _; rw [atI_mem hi]; rfl
            · show (L2.atI xs (i : Int)).map Vl.sh = _; rw [atI_mem hi]; rfl
          have e7 := ih xs[i] (h3 _ (List.getElem_mem hi)) k τ
          rw [show k + n + 1 = k + (n + 1) by omega] at e7
          simp [e6, e7]
      have he : eqV (.list []) (.list []) = some (.sh (.bool true)) := eq_true rfl (by simp [PyData.depth, PyData.depthAll])
      have hc := comp none τ
      rcases h1 with rfl | rfl
      · simp [startE_s, isB, hl, h0, hc, he]
      · simp [startE_s, isB, hl, h0, hc, he]
end
end Pv
namespace Pv
open PySem L2 PySem.Spec PyProof.Rows
theorem cut_from (xs : List D) (n : Nat) : cutD xs (some (n : Int)) none = xs.drop n := by
  unfold cutD
  rw [HT.sIx_nat, HT.sIx_none]
  rcases Nat.le_total n xs.length with h | h
  · rw [Nat.min_eq_left h]
    apply List.take_of_length_le
    rw [List.length_drop]; omega
  · rw [Nat.min_eq_right h, List.drop_eq_nil_of_le h, List.drop_length]
    simp
theorem cut_to (xs : List D) (n : Nat) : cutD xs none (some (n : Int)) = xs.take n := by
  unfold cutD
  rw [HT.sIx_nat, HT.sIx_none, List.drop_zero, Nat.sub_zero]
  rcases Nat.le_total n xs.length with h | h
  · rw [Nat.min_eq_left h]
  · rw [Nat.min_eq_right h, List.take_length, List.take_of_length_le h]
theorem cut_ft (xs : List D) (n m : Nat) (h : n ≤ m) : cutD xs (some (n : Int)) (some (m : Int)) = (xs.drop n).take (m - n) := by
  unfold cutD
  rw [HT.sIx_nat, HT.sIx_nat]
  rcases Nat.le_total n xs.length with h1 | h1
  · rw [Nat.min_eq_left h1]
    rcases Nat.le_total m xs.length with h2 | h2
    · rw [Nat.min_eq_left h2]
    · rw [Nat.min_eq_right h2, List.take_of_length_le (by rw [List.length_drop]; omega), List.take_of_length_le (by rw [List.length_drop]; omega)]
  · rw [Nat.min_eq_right h1, List.drop_length, List.drop_eq_nil_of_le h1]
    simp
theorem zipD_ints : ∀ xs ys : List Int, zipD (xs.map PyData.int) (ys.map PyData.int) = (xs.zip ys).map fun p => .tuple [.int p.1, .int p.2]
  | [], _ => by simp [zipD]
  | _ :: _, [] => by simp [zipD]
  | x :: xs, y :: ys => by
    simp only [List.map_cons, zipD, List.zip_cons_cons]
    rw [zipD_ints xs ys]
theorem zipD_map {α β : Type} (f : α → D) (g : β → D) : ∀ (xs : List α) (ys : List β), zipD (xs.map f) (ys.map g) = (xs.zip ys).map fun p => .tuple [f p.1, g p.2]
  | [], _ => by simp [zipD]
  | _ :: _, [] => by simp [zipD]
  | x :: xs, y :: ys => by
    simp only [List.map_cons, zipD, List.zip_cons_cons]
    rw [zipD_map f g xs ys]
@[simp] theorem sum_ints {ns : List Int} : sumC [.list (ns.map PyData.int)] = some (.sh (.int ns.sum)) := by
  show (toInts (ns.map PyData.int)).map _ = _
  rw [toInts_map]; rfl
/-! ### dicts -/
section
variable {κ : Type} [DecidableEq κ]
theorem hasK_iff {kvs : List (κ × D)} {k : κ} : hasK kvs k = true ↔ k ∈ kvs.map (·.1) := by
  unfold hasK
  rw [List.any_eq_true]
  constructor
  · rintro ⟨p, hp, e⟩
    exact List.mem_map.mpr ⟨p, hp, of_decide_eq_true e⟩
  · intro h
    obtain ⟨p, hp, e⟩ := List.mem_map.mp h
    exact ⟨p, hp, decide_eq_true e⟩
theorem putD_new {kvs : List (κ × D)} {k : κ} {d : D} (h : k ∉ kvs.map (·.1)) : putD kvs k d = kvs ++ [(k, d)] := by
  unfold putD
  rw [if_neg (fun z => h (hasK_iff.mp z))]
theorem valK_none {kvs : List (κ × D)} {k : κ} (h : k ∉ kvs.map (·.1)) : valK kvs k = none := by
  unfold valK
  rw [List.find?_eq_none.mpr]
  · rfl
  · intro p hp e
    exact h (List.mem_map.mpr ⟨p, hp, of_decide_eq_true e⟩)
theorem valK_cons {p : κ × D} {kvs : List (κ × D)} {k : κ} : valK (p :: kvs) k = if p.1 = k then some p.2 else valK kvs k := by
  unfold valK
  by_cases h : p.1 = k
  · rw [List.find?_cons_of_pos (by simpa using h), if_pos h]; rfl
  · rw [List.find?_cons_of_neg (by simpa using h), if_neg h]
theorem valK_mem {kvs : List (κ × D)} {k : κ} {d : D} (nd : (kvs.map (·.1)).Nodup) (h : (k, d) ∈ kvs) : valK kvs k = some d := by
  induction kvs with
  | nil => cases h
  | cons p kvs ih =>
    rw [valK_cons]
    rw [List.map_cons, List.nodup_cons] at nd
    rcases List.mem_cons.mp h with e | h
    · rw [← e, if_pos rfl]
    · have : p.1 ≠ k := fun e => nd.1 (List.mem_map.mpr ⟨_, h, by rw [e]⟩)
      rw [if_neg this]
      exact ih nd.2 h
end
theorem mergeD_new : ∀ (prs acc : List (Key × D)), ((acc ++ prs).map (·.1)).Nodup → mergeD acc prs = acc ++ prs
  | [], acc, _ => by simp [mergeD]
  | p :: prs, acc, nd => by
    show mergeD (putD acc p.1 p.2) prs = _
    have hn : p.1 ∉ acc.map (·.1) := fun z => by
      rw [List.map_append, List.map_cons] at nd
      exact (List.nodup_append.mp nd).2.2 _ z _ List.mem_cons_self rfl
    rw [putD_new hn, mergeD_new prs _ (by rw [List.append_assoc]; exact nd), List.append_assoc]
    rfl
theorem dcL_pure {b : DG} {k e : DD} {env : Ev} (kk : D → Key) (f : D → D) : ∀ {ds : List D} {acc : List (Key × D)}, (∀ x ∈ ds, ∃ env1 kd, b x env = some env1 ∧ keyD kd = some (kk x) ∧ ∀ τ, k env1 τ = some (kd, τ) ∧ e env1 τ = some (f x, τ)) → ∀ τ, dcL b yes k e ds acc env τ = some (mergeD acc (ds.map fun x => (kk x, f x)), τ)
  | [], acc, _, _ => rfl
  | x :: xs, acc, h, τ => by
    obtain ⟨env1, kd, h1, h2, h3⟩ := h x List.mem_cons_self
    have ih := dcL_pure (b := b) (k := k) (e := e) (env := env) kk f (ds := xs) (acc := putD acc (kk x) (f x)) (fun y hy => h y (List.mem_cons_of_mem _ hy)) τ
    rw [dcL, h1]
    show bnd (yes env1 τ) _ = _
    rw [yes_s, bnd_s, if_pos rfl, (h3 τ).1, bnd_s, (h3 τ).2, bnd_s, h2]
    exact ih
theorem pairsK_map {α : Type} (f g : α → D) (kk : α → Key) : ∀ (xs : List α), (∀ x ∈ xs, keyD (f x) = some (kk x)) → pairsK (xs.map fun x => .tuple [f x, g x]) = some (xs.map fun x => (kk x, g x))
  | [], _ => rfl
  | x :: xs, h => by
    have ih := pairsK_map f g kk xs fun y hy => h y (List.mem_cons_of_mem _ hy)
    show (match (keyD (f x)).map (fun c => (c, g x)), pairsK (xs.map fun x => .tuple [f x, g x]) with
      | some p, some ps => some (p :: ps)
      | _, _ => none) = _
    rw [h x List.mem_cons_self, ih]
    rfl
/-! ### folk -/
abbrev Fk := List (Str × Int × Int)
def e1 (p : Str × Int × Int) : D := .tuple [.str p.1, .int p.2.1, .int p.2.2]
def eF (fs : Fk) : D := .tuple (fs.map e1)
def fnames (fs : Fk) : List Str := fs.map (·.1)
def fget (fs : Fk) (n : Str) : Str × Int × Int := (fs.find? fun p => decide (p.1 = n)).getD (n, 0, 0)
def clamp (p : Str × Int × Int) (d : Int) : Int := min (max d p.2.1) p.2.2
/-- where the wheel stands behind each visit -/
def sett (fs : Fk) : Int → List Str → List Int
  | _, [] => []
  | d, n :: ns => clamp (fget fs n) d :: sett fs (clamp (fget fs n) d) ns
theorem sett_len (fs : Fk) : ∀ (d : Int) (ns : List Str), (sett fs d ns).length = ns.length
  | _, [] => rfl
  | d, n :: ns => by rw [sett, List.length_cons, List.length_cons, sett_len fs _ ns]
theorem fget_mem {fs : Fk} {n : Str} (h : n ∈ fnames fs) : fget fs n ∈ fs ∧ (fget fs n).1 = n := by
  unfold fget
  obtain ⟨p, hp, e⟩ := List.mem_map.mp h
  cases q : fs.find? (fun p => decide (p.1 = n)) with
  | none =>
    have := List.find?_eq_none.mp q p hp
    rw [e] at this
    simp at this
  | some r =>
    have h1 := List.find?_some q
    exact ⟨List.mem_of_find?_eq_some q, of_decide_eq_true h1⟩
/-- the dict of the folk by their names -/
def byN (fs : Fk) : List (Key × D) := fs.map fun p => (.inr p.1, e1 p)
theorem byN_keys (fs : Fk) : (byN fs).map (·.1) = (fnames fs).map Sum.inr := by
  unfold byN fnames
  rw [List.map_map, List.map_map]
  rfl
theorem nodup_inr {xs : List Str} (h : xs.Nodup) : (xs.map (Sum.inr : Str → Key)).Nodup := by
  induction xs with
  | nil => simp
  | cons x xs ih =>
    rw [List.nodup_cons] at h
    rw [List.map_cons, List.nodup_cons]
    refine ⟨fun z => ?_, ih h.2⟩
    obtain ⟨y, hy, e⟩ := List.mem_map.mp z
    cases e
    exact h.1 hy
theorem valK_byN {fs : Fk} {n : Str} (nd : (fnames fs).Nodup) (h : n ∈ fnames fs) : valK (byN fs) (.inr n) = some (e1 (fget fs n)) := by
  obtain ⟨h1, h2⟩ := fget_mem h
  refine valK_mem (by rw [byN_keys]; exact nodup_inr nd) ?_
  refine List.mem_map.mpr ⟨_, h1, ?_⟩
  rw [h2]
section
variable {tb : Nat → Option Df} {k : Nat}
theorem suited_s (h15 : tb 15 = some d15) (p : Str × Int × Int) (d : Int) (τ : Tp) : callK tb (k + 1) 15 [.sh (e1 p), .sh (.int d)] τ = some (.sh (.int (clamp p d)), τ) := by
  rw [call_s h15 rfl]
  simp [startE_s, e1, clamp]
theorem ix0 (xs : List D) (x : D) : ixV (.tuple (x :: xs)) (.int 0) = some (.sh x) := by
  show (L2.atI (x :: xs) ((0 : Nat) : Int)).map Vl.sh = _
  rw [atI_nat (v := x) rfl]; rfl
theorem ix1 (xs : List D) (x y : D) : ixV (.tuple (x :: y :: xs)) (.int 1) = some (.sh y) := by
  show (L2.atI (x :: y :: xs) ((1 : Nat) : Int)).map Vl.sh = _
  rw [atI_nat (v := y) rfl]; rfl
theorem ix2 (xs : List D) (x y z : D) : ixV (.tuple (x :: y :: z :: xs)) (.int 2) = some (.sh z) := by
  show (L2.atI (x :: y :: z :: xs) ((2 : Nat) : Int)).map Vl.sh = _
  rw [atI_nat (v := z) rfl]; rfl
theorem ixm1 (xs : List D) (x : D) : ixV (.list (xs ++ [x])) (.int (-1)) = some (.sh x) := by
  show (L2.atI (xs ++ [x]) (-1)).map Vl.sh = _
  rw [atI_last]; rfl
theorem byN_make (C : Nat → Cal) {fs : Fk} (nd : (fnames fs).Nodup) (env : Ev) (τ : Tp) (h : ∃ l, env.length = l ∧ 4 < l) : dcL (gN 4) yes (shD (dBin ixV (dVar 4) (dK (.int 0)))) (dVar 4) (fs.map e1) [] env τ = some (byN fs, τ) := by
  obtain ⟨l, h1, h2⟩ := h
  have := dcL_pure (b := gN 4) (k := shD (dBin ixV (dVar 4) (dK (.int 0)))) (e := dVar 4) (env := env) (fun d => match d with
    | .tuple (.str n :: _) => .inr n
    | _ => .inr default) (fun d => d) (ds := fs.map e1) (acc := []) (fun x hx => by
      obtain ⟨p, hp, rfl⟩ := List.mem_map.mp hx
      have e4 : (env.set 4 (some (.sh (e1 p))))[4]? = some (some (.sh (e1 p))) := List.getElem?_set_self (by omega)
      refine ⟨_, .str p.1, rfl, rfl, fun τ => ⟨?_, ?_⟩⟩
      · simp only [shD_s, dBin_s, dVar_s, e4, dK_s, bnd_s]
        unfold e1
        rw [ix0]
        rfl
      · simp only [dVar_s, e4]) τ
  rw [this, mergeD_new _ _ ?_]
  · unfold byN
    rw [List.nil_append, List.map_map]
    rfl
  · rw [List.nil_append, List.map_map, List.map_map]
    have := nodup_inr nd
    unfold fnames at this
    rw [List.map_map] at this
    exact this
end
end Pv
namespace Pv
open PySem L2 PySem.Spec PyProof.Rows
theorem app_s {ds : List D} {y : D} (h : ds.length < 16777216) : appV ds [y] = some (ds ++ [y]) := by
  show (if ds.length < 16777216 then some (ds ++ [y]) else none) = _
  rw [if_pos h]
theorem add_ll {xs ys : List D} (h : xs.length + ys.length ≤ 16777216) : addV (.list xs) (.list ys) = some (.ow (xs ++ ys)) := by
  show (if xs.length + ys.length ≤ 16777216 then some (Vl.ow (xs ++ ys)) else none) = _
  rw [if_pos h]
theorem add_tt {xs ys : List D} (h : xs.length + ys.length ≤ 16777216) : addV (.tuple xs) (.tuple ys) = some (.sh (.tuple (xs ++ ys))) := by
  show (if xs.length + ys.length ≤ 16777216 then some (Vl.sh (.tuple (xs ++ ys))) else none) = _
  rw [if_pos h]
section
variable {tb : Nat → Option Df} {k : Nat}
theorem settings_loop (h15 : tb 15 = some d15) {fs : Fk} (nd : (fnames fs).Nodup) (F v : D) (x4 : Option Vl) : ∀ (ns : List Str) (d : Int) (acc : List D) (x6 : Option Vl) (τ : Tp), (∀ n ∈ ns, n ∈ fnames fs) → acc.length + ns.length ≤ 16777216 →
    ∃ d' x6', forL (gN 6) (sSeq (sAsg 1 (dDef (callK tb (k + 1) 15) (vCons (dGet (dMb 3) (dVar 6)) (vCons (dVar 1) (vNil))))) (sMut 5 appV (dCons (dVar 1) (dNil)))) (ns.map .str) [some (.sh F), some (.sh (.int d)), some (.sh v), some (.dk (byN fs)), x4, some (.ow acc), x6] τ
      = some (.nx [some (.sh F), some (.sh (.int d')), some (.sh v), some (.dk (byN fs)), x4, some (.ow (acc ++ (sett fs d ns).map .int)), x6'], τ)
  | [], d, acc, x6, τ, _, _ => ⟨d, x6, by simp [sett]⟩
  | n :: ns, d, acc, x6, τ, h, hl => by
    have hl1 : acc.length < 16777216 := by simp at hl; omega
    obtain ⟨d', x6', ih⟩ := settings_loop h15 nd F v x4 ns (clamp (fget fs n) d) (acc ++ [.int (clamp (fget fs n) d)]) (some (.sh (.str n))) τ (fun m hm => h m (List.mem_cons_of_mem _ hm)) (by simp at hl ⊢; omega)
    refine ⟨d', x6', ?_⟩
    rw [List.map_cons, forL_cons rfl]
    have hg : getM (.dk (byN fs)) (.str n) = some (some (e1 (fget fs n))) := by
      show (some (valK (byN fs) (.inr n))) = _
      rw [valK_byN nd (h n List.mem_cons_self)]
    simp [hg, suited_s h15, app_s hl1, ih, sett]
theorem items_it {v : D} {xs : List D} (h : v = .list xs ∨ v = .tuple xs) {f : DD} {env : Ev} {τ τ' : Tp} (e : f env τ = some (v, τ')) : dIt f env τ = some (xs, τ') := by
  rw [dIt_s, e]
  rcases h with rfl | rfl <;> rfl
theorem settings_s (h15 : tb 15 = some d15) (h16 : tb 16 = some d16) {fs : Fk} (nd : (fnames fs).Nodup) {ns : List Str} (hv : ∀ n ∈ ns, n ∈ fnames fs) (hl : ns.length ≤ 16777216) {v : D} (hv2 : v = .list (ns.map .str) ∨ v = .tuple (ns.map .str)) (d : Int) (τ : Tp) :
    callK tb (k + 2) 16 [.sh (eF fs), .sh (.int d), .sh v] τ = some (.ow ((sett fs d ns).map .int), τ) := by
  rw [call_s h16 rfl]
  obtain ⟨d', x6', hloop⟩ := settings_loop (k := k) h15 nd (eF fs) v none ns d [] none τ hv (by simpa using hl)
  have hd := byN_make (callK tb (k + 1)) nd [some (.sh (eF fs)), some (.sh (.int d)), some (.sh v), none, none, none, none] τ ⟨7, rfl, by omega⟩
  rcases hv2 with rfl | rfl <;> (simp [startE_s, eF]; simp [eF] at hloop hd; simp [hd, hloop])
/-- how far the wheel is turned -/
def walkLen : Int → List Int → Int
  | _, [] => 0
  | d, x :: xs => absI (d - x) + walkLen x xs
theorem walk_zip_sum : ∀ (xs : List Int) (d : Int), (((d :: xs).zip xs).map fun p => absI (p.1 - p.2)).sum = walkLen d xs
  | [], d => rfl
  | x :: xs, d => by
    rw [List.zip_cons_cons, List.map_cons, List.sum_cons, walk_zip_sum xs x]
    rfl
theorem turned_s (h15 : tb 15 = some d15) (h16 : tb 16 = some d16) (h17 : tb 17 = some d17) {fs : Fk} (nd : (fnames fs).Nodup) {ns : List Str} (hv : ∀ n ∈ ns, n ∈ fnames fs) (hl : ns.length ≤ 16777200) {v : D} (hv2 : v = .list (ns.map .str) ∨ v = .tuple (ns.map .str)) (d : Int) (τ : Tp) :
    callK tb (k + 3) 17 [.sh (eF fs), .sh (.int d), .sh v] τ = some (.sh (.int (walkLen d (sett fs d ns))), τ) := by
  rw [call_s h17 rfl]
  have hs := settings_s (k := k) h15 h16 nd hv (by omega) hv2 d τ
  have hlen := sett_len fs d ns
  generalize hrows : sett fs d ns = rows at hs hlen ⊢
  have hadd : addV (.list [.int d]) (.list (rows.map .int)) = some (.ow ((d :: rows).map .int)) := add_ll (by simp; omega)
  have hcut : cutD ((d :: rows).map PyData.int) (some 1) none = rows.map .int := by
    have := cut_from ((d :: rows).map PyData.int) 1
    exact this
  have hz : zipD ((d :: rows).map PyData.int) (rows.map .int) = ((d :: rows).zip rows).map fun p => .tuple [.int p.1, .int p.2] := zipD_ints _ _
  have hc : ∀ (env : Ev) τ, env.length = 6 → compL (gT [4, 5]) yes (shD (dCl absC (dCons (shD (dBin subV (dVar 4) (dVar 5))) (dNil)))) (((d :: rows).zip rows).map fun p => .tuple [.int p.1, .int p.2]) env τ = some (((d :: rows).zip rows).map fun p => .int (absI (p.1 - p.2)), τ) := fun env τ el => by
    rw [compL_map (fun x => match x with
      | .tuple [.int a, .int b] => .int (absI (a - b))
      | _ => .none) (fun x hx => ?_) τ, List.map_map]
    · rfl
    · obtain ⟨p, _, rfl⟩ := List.mem_map.mp hx
      refine ⟨_, rfl, fun τ => ?_⟩
      have e4 : ((env.set 4 (some (.sh (.int p.1)))).set 5 (some (.sh (.int p.2))))[4]? = some (some (.sh (.int p.1))) := by rw [List.getElem?_set_ne (by decide), List.getElem?_set_self (by omega)]
      have e5 : ((env.set 4 (some (.sh (.int p.1)))).set 5 (some (.sh (.int p.2))))[5]? = some (some (.sh (.int p.2))) := List.getElem?_set_self (by rw [List.length_set]; omega)
      simp only [shD_s, dCl_s, dCons_s, dBin_s, dVar_s, List.zip_cons_cons, List.zip_nil_left, List.foldl_cons, List.foldl_nil, e4, e5, bnd_s, sub_ii, Option.map_some, dNil_s, abs_i]
  have hsum : sumC [.list (((d :: rows).zip rows).map fun p => .int (absI (p.1 - p.2)))] = some (.sh (.int (walkLen d rows))) := by
    have := sum_ints (ns := ((d :: rows).zip rows).map fun p => absI (p.1 - p.2))
    rw [List.map_map, walk_zip_sum] at this
    exact this
  simp only [List.map_cons] at hadd hcut hz
  simp [startE_s, hs, hadd, slD, hcut, itemsD, hz]
  have := hc [some (Vl.sh (eF fs)), some (Vl.sh (PyData.int d)), some (Vl.sh v), some (Vl.sh (PyData.list (PyData.int d :: List.map PyData.int rows))), none, none] τ rfl
  simp [this, hsum]
end
end Pv
namespace Pv
open PySem L2 PySem.Spec PyProof.Rows
/-- where the wheel stands in the end -/
def endAt (fs : Fk) (d : Int) (ns : List Str) : Int := (sett fs d ns).getLastD d
theorem map_last (d : Int) : ∀ rows : List Int, ∃ xs, (d :: rows).map PyData.int = xs ++ [.int (rows.getLastD d)] := by
  intro rows
  induction rows generalizing d with
  | nil => exact ⟨[], rfl⟩
  | cons x rows ih =>
    obtain ⟨xs, h⟩ := ih x
    refine ⟨.int d :: xs, ?_⟩
    rw [List.map_cons, h, List.getLastD_cons]
    rfl
theorem ix_last (d : Int) (rows : List Int) : ixV (.list (.int d :: rows.map .int)) (.int (-1)) = some (.sh (.int (rows.getLastD d))) := by
  obtain ⟨xs, h⟩ := map_last d rows
  rw [List.map_cons] at h
  rw [h, ixm1]
section
variable {tb : Nat → Option Df} {k : Nat}
theorem two_s (h15 : tb 15 = some d15) (h16 : tb 16 = some d16) (h18 : tb 18 = some d18) {fs : Fk} (nd : (fnames fs).Nodup) {ns : List Str} (hv : ∀ n ∈ ns, n ∈ fnames fs) (hl : ns.length ≤ 16777200) {v : D} (hv2 : v = .list (ns.map .str) ∨ v = .tuple (ns.map .str)) (τ : Tp) :
    callK tb (k + 3) 18 [.sh (eF fs), .sh v] τ = some (.sh (.tuple [.int (endAt fs 0 ns), .int (endAt fs 40 ns)]), τ) := by
  rw [call_s h18 rfl]
  have hs0 := settings_s (k := k) h15 h16 nd hv (by omega) hv2 0 τ
  have hs1 := settings_s (k := k) h15 h16 nd hv (by omega) hv2 40 τ
  have l0 := sett_len fs 0 ns
  have l1 := sett_len fs 40 ns
  have a0 : addV (.list [.int 0]) (.list ((sett fs 0 ns).map .int)) = some (.ow (.int 0 :: (sett fs 0 ns).map .int)) := add_ll (by simp; omega)
  have a1 : addV (.list [.int 40]) (.list ((sett fs 40 ns).map .int)) = some (.ow (.int 40 :: (sett fs 40 ns).map .int)) := add_ll (by simp; omega)
  simp [startE_s, hs0, hs1, a0, a1, ix_last, endAt]
/-- the law's dict -/
def byS (fs : Fk) : List (Key × D) := fs.map fun p => (.inr p.1, .tuple [.int p.2.1, .int p.2.2])
theorem byS_keys (fs : Fk) : (byS fs).map (·.1) = (fnames fs).map Sum.inr := by
  unfold byS fnames
  rw [List.map_map, List.map_map]
  rfl
theorem valK_byS {fs : Fk} {n : Str} (nd : (fnames fs).Nodup) (h : n ∈ fnames fs) : valK (byS fs) (.inr n) = some (.tuple [.int (fget fs n).2.1, .int (fget fs n).2.2]) := by
  obtain ⟨h1, h2⟩ := fget_mem h
  refine valK_mem (by rw [byS_keys]; exact nodup_inr nd) ?_
  refine List.mem_map.mpr ⟨_, h1, ?_⟩
  rw [h2]
/-- each stretch is the right way about -/
def Wf (fs : Fk) : Prop := ∀ p ∈ fs, p.2.1 ≤ p.2.2
theorem clamp_if {p : Str × Int × Int} {d : Int} (h : p.2.1 ≤ p.2.2) : (if d < p.2.1 then p.2.1 else if p.2.2 < d then p.2.2 else d) = clamp p d := by
  unfold clamp
  split
  · omega
  · split <;> omega
theorem rows_loop {fs : Fk} (nd : (fnames fs).Nodup) (wf : Wf fs) (F v : D) : ∀ (ns : List Str) (d : Int) (acc : List D) (x4 x5 x6 : Option Vl) (τ : Tp), (∀ n ∈ ns, n ∈ fnames fs) → acc.length + ns.length ≤ 16777216 →
    ∃ d' y4 y5 y6, forL (gN 4) (sSeq (sUnp (gT [5, 6]) (dGet (dMb 3) (dVar 4))) (sSeq (sAsg 1 (vD (dif (tst (dBin ltV (dVar 1) (dVar 5))) (dVar 5) (dif (tst (dBin gtV (dVar 1) (dVar 6))) (dVar 6) (dVar 1))))) (sMut 7 appV (dCons (dVar 1) (dNil))))) (ns.map .str) [some (.sh F), some (.sh (.int d)), some (.sh v), some (.dk (byS fs)), x4, x5, x6, some (.ow acc)] τ
      = some (.nx [some (.sh F), some (.sh (.int d')), some (.sh v), some (.dk (byS fs)), y4, y5, y6, some (.ow (acc ++ (sett fs d ns).map .int))], τ)
  | [], d, acc, x4, x5, x6, τ, _, _ => ⟨d, x4, x5, x6, by simp [sett]⟩
  | n :: ns, d, acc, x4, x5, x6, τ, h, hl => by
    have hl1 : acc.length < 16777216 := by simp at hl; omega
    obtain ⟨d', y4, y5, y6, ih⟩ := rows_loop nd wf F v ns (clamp (fget fs n) d) (acc ++ [.int (clamp (fget fs n) d)]) (some (.sh (.str n))) (some (.sh (.int (fget fs n).2.1))) (some (.sh (.int (fget fs n).2.2))) τ (fun m hm => h m (List.mem_cons_of_mem _ hm)) (by simp at hl ⊢; omega)
    refine ⟨d', y4, y5, y6, ?_⟩
    rw [List.map_cons, forL_cons rfl]
    have hn := h n List.mem_cons_self
    have hg : getM (.dk (byS fs)) (.str n) = some (some (.tuple [.int (fget fs n).2.1, .int (fget fs n).2.2])) := by
      show (some (valK (byS fs) (.inr n))) = _
      rw [valK_byS nd hn]
    have hc := clamp_if (d := d) (wf _ (fget_mem hn).1)
    by_cases c1 : d < (fget fs n).2.1
    · rw [if_pos c1] at hc
      rw [← hc] at ih
      simp [hg, c1, app_s hl1, ih, sett, ← hc]
    · by_cases c2 : (fget fs n).2.2 < d
      · rw [if_neg c1, if_pos c2] at hc
        rw [← hc] at ih
        simp [hg, c1, c2, app_s hl1, ih, sett, ← hc]
      · rw [if_neg c1, if_neg c2] at hc
        rw [← hc] at ih
        simp [hg, c1, c2, app_s hl1, ih, sett, ← hc]
theorem rows_s (h21 : tb 21 = some d21) {fs : Fk} (nd : (fnames fs).Nodup) (wf : Wf fs) {ns : List Str} (hv : ∀ n ∈ ns, n ∈ fnames fs) (hl : ns.length ≤ 16777216) {v : D} (hv2 : v = .list (ns.map .str) ∨ v = .tuple (ns.map .str)) (d : Int) (τ : Tp) :
    callK tb (k + 1) 21 [.sh (eF fs), .sh (.int d), .sh v] τ = some (.ow ((sett fs d ns).map .int), τ) := by
  rw [call_s h21 rfl]
  obtain ⟨d', y4, y5, y6, hloop⟩ := rows_loop nd wf (eF fs) v ns d [] none none none τ hv (by simpa using hl)
  have hc : compL (gT [4, 5, 6]) yes (dTup (dCons (dVar 4) (dCons (dTup (dCons (dVar 5) (dCons (dVar 6) (dNil)))) (dNil)))) (fs.map e1) [some (.sh (eF fs)), some (.sh (.int d)), some (.sh v), none, none, none, none, none] τ = some (fs.map fun p => .tuple [.str p.1, .tuple [.int p.2.1, .int p.2.2]], τ) := by
    rw [compL_map (fun x => match x with
      | .tuple [a, b, c] => .tuple [a, .tuple [b, c]]
      | _ => .none) (fun x hx => ?_) τ, List.map_map]
    · rfl
    · obtain ⟨p, _, rfl⟩ := List.mem_map.mp hx
      exact ⟨_, rfl, fun τ => by simp [e1]⟩
  have hp := pairsK_map (fun p : Str × Int × Int => PyData.str p.1) (fun p => .tuple [.int p.2.1, .int p.2.2]) (fun p => .inr p.1) fs fun _ _ => rfl
  have hm : mergeD [] (fs.map fun p => ((.inr p.1 : Key), PyData.tuple [.int p.2.1, .int p.2.2])) = byS fs := by
    rw [mergeD_new _ _ (by rw [List.nil_append]; have := byS_keys fs; unfold byS at this; rw [this]; exact nodup_inr nd)]
    rfl
  rcases hv2 with rfl | rfl <;> (simp [startE_s, eF]; simp [eF] at hloop hc; simp [hc, hp, hm, hloop])
theorem lturn_loop (F v : D) : ∀ (rows : List Int) (d acc : Int) (x4 : Option Vl) (τ : Tp), ∃ d' y4, forL (gN 4) (sPar [3, 1] (wCons (shD (dBin addV (dVar 3) (shD (dCl absC (dCons (shD (dBin subV (dVar 4) (dVar 1))) (dNil)))))) (wCons (dVar 4) (wNil)))) (rows.map .int) [some (.sh F), some (.sh (.int d)), some (.sh v), some (.sh (.int acc)), x4] τ
    = some (.nx [some (.sh F), some (.sh (.int d')), some (.sh v), some (.sh (.int (acc + walkLen d rows))), y4], τ)
  | [], d, acc, x4, τ => ⟨d, x4, by simp [walkLen]⟩
  | x :: rows, d, acc, x4, τ => by
    obtain ⟨d', y4, ih⟩ := lturn_loop F v rows x (acc + absI (x - d)) (some (.sh (.int x))) τ
    refine ⟨d', y4, ?_⟩
    rw [List.map_cons, forL_cons rfl]
    have hw : acc + walkLen d (x :: rows) = acc + absI (x - d) + walkLen x rows := by
      have : absI (d - x) = absI (x - d) := by unfold absI; split <;> split <;> omega
      show acc + (absI (d - x) + walkLen x rows) = _
      rw [this]; omega
    simp [ih, hw]
theorem lturned_s (h21 : tb 21 = some d21) (h22 : tb 22 = some d22) {fs : Fk} (nd : (fnames fs).Nodup) (wf : Wf fs) {ns : List Str} (hv : ∀ n ∈ ns, n ∈ fnames fs) (hl : ns.length ≤ 16777216) {v : D} (hv2 : v = .list (ns.map .str) ∨ v = .tuple (ns.map .str)) (d : Int) (τ : Tp) :
    callK tb (k + 2) 22 [.sh (eF fs), .sh (.int d), .sh v] τ = some (.sh (.int (walkLen d (sett fs d ns))), τ) := by
  rw [call_s h22 rfl]
  have hs := rows_s (k := k) h21 nd wf hv hl hv2 d τ
  obtain ⟨d', y4, hloop⟩ := lturn_loop (eF fs) v (sett fs d ns) d 0 none τ
  simp [startE_s, hs]
  simp at hloop
  simp [hloop]
end
end Pv
namespace Pv
open PySem L2 PySem.Spec PyProof.Rows
theorem compL_ex {b : DG} {e : DD} {env : Ev} {Q : D → Prop} : ∀ {ds : List D}, (∀ x ∈ ds, ∀ τ, ∃ env1 y τ', b x env = some env1 ∧ e env1 τ = some (y, τ') ∧ Q y) → ∀ τ, ∃ ys τ', compL b yes e ds env τ = some (ys, τ') ∧ ys.length = ds.length ∧ ∀ y ∈ ys, Q y
  | [], _, τ => ⟨[], τ, rfl, rfl, fun y h => by cases h⟩
  | x :: xs, h, τ => by
    obtain ⟨env1, y, τ1, h1, h2, h3⟩ := h x List.mem_cons_self τ
    obtain ⟨ys, τ2, h4, h5, h6⟩ := compL_ex (b := b) (e := e) (env := env) (Q := Q) (ds := xs) (fun z hz => h z (List.mem_cons_of_mem _ hz)) τ1
    refine ⟨y :: ys, τ2, ?_, by rw [List.length_cons, List.length_cons, h5], fun z hz => ?_⟩
    · rw [compL_cons h1, yes_s, bnd_s, if_pos rfl, h2, bnd_s, h4, bnd_s]
    · rcases List.mem_cons.mp hz with rfl | hz
      · exact h3
      · exact h6 z hz
theorem strs_of {P : Str → Prop} : ∀ {ys : List D}, (∀ y ∈ ys, ∃ n, y = .str n ∧ P n) → ∃ ns : List Str, ys = ns.map .str ∧ ∀ n ∈ ns, P n
  | [], _ => ⟨[], rfl, fun n h => by cases h⟩
  | y :: ys, h => by
    obtain ⟨n, rfl, hn⟩ := h y List.mem_cons_self
    obtain ⟨ns, rfl, hs⟩ := strs_of fun z hz => h z (List.mem_cons_of_mem _ hz)
    refine ⟨n :: ns, rfl, fun m hm => ?_⟩
    rcases List.mem_cons.mp hm with rfl | hm
    · exact hn
    · exact hs m hm
/-- an item at a drawn place -/
theorem ix_in {xs : List D} {r : Int} (h0 : 0 ≤ r) (h1 : r < xs.length) : ∃ x ∈ xs, ixV (.list xs) (.int r) = some (.sh x) := by
  refine ⟨xs[r.toNat]'(by omega), List.getElem_mem _, ?_⟩
  show (L2.atI xs r).map Vl.sh = _
  have := atI_mem (xs := xs) (i := r.toNat) (by omega)
  rw [show ((r.toNat : Nat) : Int) = r by omega] at this
  rw [this]; rfl
def names6 : List Str := ["ann", "bob", "cy", "dee", "eve", "fay"]
structure GoodF (m : Nat) (fs : Fk) : Prop where
  nm : fnames fs = names6.take fs.length
  l1 : 1 ≤ fs.length
  l2 : fs.length ≤ m
  l6 : m ≤ 6
  bd : ∀ p ∈ fs, 0 ≤ p.2.1 ∧ p.2.1 ≤ p.2.2 ∧ p.2.2 ≤ 40
theorem names6_nd : names6.Nodup := by decide +kernel
theorem GoodF.nd {m : Nat} {fs : Fk} (h : GoodF m fs) : (fnames fs).Nodup := by
  rw [h.nm]
  exact names6_nd.sublist (List.take_sublist _ _)
theorem GoodF.wf {m : Nat} {fs : Fk} (h : GoodF m fs) : Wf fs := fun p hp => (h.bd p hp).2.1
section
variable {tb : Nat → Option Df} {k : Nat}
theorem folk_loop (h4 : tb 4 = some d4) {size wide long begin : Int} (hw : 0 < wide ∧ wide ≤ 41) (hl : 0 < long ∧ long ≤ 20) (hb : 0 ≤ begin ∧ begin < 42 - wide) : ∀ (ns : List Str) (acc : List D) (x6 x7 : Option Vl) (τ : Tp), acc.length + ns.length ≤ 1000 →
    ∃ fs τ' y6 y7, forL (gN 6) (sSeq (sAsg 7 (dBin addV (dVar 4) (shD (dDef (callK tb (k + 1) 4) (vTap 0 (vCons (dVar 2) (vNil))))))) (sMut 5 appV (dCons (dTup (dCons (dVar 6) (dCons (dVar 7) (dCons (shD (dCl min2 (dCons (dK (.int 40)) (dCons (shD (dBin addV (dVar 7) (shD (dDef (callK tb (k + 1) 4) (vTap 0 (vCons (dVar 3) (vNil))))))) (dNil))))) (dNil))))) (dNil)))) (ns.map .str) [some .tp, some (.sh (.int size)), some (.sh (.int wide)), some (.sh (.int long)), some (.sh (.int begin)), some (.ow acc), x6, x7] τ
      = some (.nx [some .tp, some (.sh (.int size)), some (.sh (.int wide)), some (.sh (.int long)), some (.sh (.int begin)), some (.ow (acc ++ fs.map e1)), y6, y7], τ') ∧ fnames fs = ns ∧ ∀ p ∈ fs, 0 ≤ p.2.1 ∧ p.2.1 ≤ p.2.2 ∧ p.2.2 ≤ 40
  | [], acc, x6, x7, τ, _ => ⟨[], τ, x6, x7, by simp, rfl, fun p h => by cases h⟩
  | n :: ns, acc, x6, x7, τ, hacc => by
    have hl1 : acc.length < 16777216 := by simp at hacc; omega
    obtain ⟨r1, τ1, g1, g2, g3⟩ := draw (k := k) h4 (m := wide) hw.1 (by omega) τ
    obtain ⟨r2, τ2, g4, g5, g6⟩ := draw (k := k) h4 (m := long) hl.1 (by omega) τ1
    obtain ⟨fs, τ', y6, y7, ih, hn, hb'⟩ := folk_loop (size := size) h4 hw hl hb ns (acc ++ [e1 (n, begin + r1, min 40 (begin + r1 + r2))]) (some (.sh (.str n))) (some (.sh (.int (begin + r1)))) τ2 (by simp at hacc ⊢; omega)
    refine ⟨(n, begin + r1, min 40 (begin + r1 + r2)) :: fs, τ', y6, y7, ?_, ?_, fun p hp => ?_⟩
    · rw [List.map_cons, forL_cons rfl]
      simp [g1, g4, app_s hl1]
      simp [e1] at ih
      simp [ih, e1]
    · show n :: fnames fs = _
      rw [hn]
    · rcases List.mem_cons.mp hp with rfl | hp
      · show 0 ≤ begin + r1 ∧ begin + r1 ≤ min 40 (begin + r1 + r2) ∧ min 40 (begin + r1 + r2) ≤ 40
        omega
      · exact hb' p hp
theorem folk_s (h4 : tb 4 = some d4) (h12 : tb 12 = some d12) {m : Nat} (hm : 1 ≤ m ∧ m ≤ 6) (τ : Tp) : ∃ fs τ', callK tb (k + 2) 12 [.tp, .sh (.int m)] τ = some (.sh (eF fs), τ') ∧ GoodF m fs := by
  rw [call_s h12 rfl]
  obtain ⟨r1, τ1, g1, g2, g3⟩ := draw (k := k) h4 (m := 3) (by decide) (by decide) τ
  obtain ⟨w, hw, ew⟩ := ix_in (xs := [.int 6, .int 20, .int 41]) g2 (by simpa using g3)
  obtain ⟨wide, rfl, hwide⟩ : ∃ wide : Int, w = .int wide ∧ (0 < wide ∧ wide ≤ 41) := by
    simp at hw
    rcases hw with rfl | rfl | rfl
    · exact ⟨_, rfl, by decide⟩
    · exact ⟨_, rfl, by decide⟩
    · exact ⟨_, rfl, by decide⟩
  obtain ⟨r2, τ2, g4, g5, g6⟩ := draw (k := k) h4 (m := 3) (by decide) (by decide) τ1
  obtain ⟨lo, hlo, el⟩ := ix_in (xs := [.int 1, .int 4, .int 20]) g5 (by simpa using g6)
  obtain ⟨long, rfl, hlong⟩ : ∃ long : Int, lo = .int long ∧ (0 < long ∧ long ≤ 20) := by
    simp at hlo
    rcases hlo with rfl | rfl | rfl
    · exact ⟨_, rfl, by decide⟩
    · exact ⟨_, rfl, by decide⟩
    · exact ⟨_, rfl, by decide⟩
  obtain ⟨begin, τ3, g7, g8, g9⟩ := draw (k := k) h4 (m := 42 - wide) (by omega) (by omega) τ2
  obtain ⟨r4, τ4, g10, g11, g12⟩ := draw (k := k) h4 (m := (m : Int)) (by omega) (by omega) τ3
  have hlen : names6.length = 6 := rfl
  obtain ⟨fs, τ', y6, y7, hloop, hn, hb⟩ := folk_loop (k := k) (size := (m : Int)) h4 hwide hlong ⟨g8, g9⟩ (names6.take (1 + r4).toNat) [] none none τ4 (by rw [List.length_take]; simp; omega)
  have hfl : fs.length = (1 + r4).toNat := by
    have := congrArg List.length hn
    rw [List.length_take, hlen] at this
    unfold fnames at this
    rw [List.length_map] at this
    omega
  refine ⟨fs, τ', ?_, ⟨by rw [hn, hfl], by omega, by omega, hm.2, hb⟩⟩
  have hc := cut_to (names6.map PyData.str) (1 + r4).toNat
  rw [show (((1 + r4).toNat : Nat) : Int) = 1 + r4 by omega, ← List.map_take] at hc
  simp [startE_s, g1, ew, g4, el, g7, g10, slD]
  simp [names6] at hc
  simp [hc]
  simp [names6] at hloop
  simp [hloop, eF]
/-- the first of each -/
theorem names_s (h19 : tb 19 = some d19) {α : Type} (f : α → Str) (g : α → List D) (xs : List α) (v : D) (hv : v = .tuple (xs.map fun a => .tuple (.str (f a) :: g a)) ∨ v = .list (xs.map fun a => .tuple (.str (f a) :: g a))) (τ : Tp) : callK tb (k + 1) 19 [.sh v] τ = some (.ow ((xs.map f).map .str), τ) := by
  rw [call_s h19 rfl]
  have hc : ∀ τ, compL (gN 1) yes (shD (dBin ixV (dVar 1) (dK (.int 0)))) (xs.map fun a => .tuple (.str (f a) :: g a)) [some (.sh v), none] τ = some ((xs.map f).map .str, τ) := fun τ => by
    rw [compL_map (fun x => match x with
      | .tuple (a :: _) => a
      | _ => .none) (fun x hx => ?_) τ, List.map_map, List.map_map]
    · rfl
    · obtain ⟨p, _, rfl⟩ := List.mem_map.mp hx
      exact ⟨_, rfl, fun τ => by simp [ix0]⟩
  rcases hv with rfl | rfl <;> (simp [startE_s]; simp at hc; simp [hc])
theorem fnames_s (h19 : tb 19 = some d19) (fs : Fk) (τ : Tp) : callK tb (k + 1) 19 [.sh (eF fs)] τ = some (.ow ((fnames fs).map .str), τ) :=
  names_s h19 (fun p : Str × Int × Int => p.1) (fun p => [.int p.2.1, .int p.2.2]) fs _ (.inl rfl) τ
theorem visits_s (h4 : tb 4 = some d4) (h19 : tb 19 = some d19) (h20 : tb 20 = some d20) {nms : List Str} {F : D} (hF : ∀ k τ, callK tb (k + 1) 19 [.sh F] τ = some (.ow (nms.map .str), τ)) (hne : 1 ≤ nms.length) (hle : nms.length ≤ 100) {m : Nat} (hm : m ≤ 1000) (τ : Tp) :
    ∃ (ns : List Str) (τ' : Tp), callK tb (k + 2) 20 [.tp, .sh F, .sh (.int m)] τ = some (.ow (ns.map .str), τ') ∧ (∀ n ∈ ns, n ∈ nms) ∧ ns.length ≤ m := by
  rw [call_s h20 rfl]
  obtain ⟨r, τ1, g1, g2, g3⟩ := draw (k := k) h4 (m := (m : Int) + 1) (by omega) (by omega) τ
  obtain ⟨ys, τ2, h1, h2, h3⟩ := compL_ex (b := gN 4) (e := shD (dBin ixV (dVar 3) (shD (dDef (callK tb (k + 1) 4) (vTap 0 (vCons (shD (dCl lenV (dCons (dVar 3) (dNil)))) (vNil))))))) (env := [some .tp, some (.sh F), some (.sh (.int m)), some (.sh (.list (nms.map .str))), none]) (Q := fun y => ∃ n, y = .str n ∧ n ∈ nms) (ds := rngL 0 r.toNat) (fun x _ τ => by
    obtain ⟨r2, τ2, f1, f2, f3⟩ := draw (k := k) h4 (m := (nms.length : Int)) (by omega) (by omega) τ
    obtain ⟨y, hy, ey⟩ := ix_in (xs := nms.map PyData.str) f2 (by simpa using f3)
    obtain ⟨n, hn, rfl⟩ := List.mem_map.mp hy
    exact ⟨_, .str n, τ2, rfl, by simp [f1, ey], n, rfl, hn⟩) τ1
  obtain ⟨ns, rfl, hns⟩ := strs_of h3
  refine ⟨ns, τ2, ?_, hns, ?_⟩
  · have hr : r ≤ 16777216 := by omega
    have hr2 : -16777216 ≤ r := by omega
    simp [startE_s, hF, g1, hr, hr2, h1]
  · rw [List.length_map, rngL_len] at h2
    omega
end
end Pv
namespace Pv
open PySem L2 PySem.Spec PyProof.Rows
theorem srtD_map {α : Type} (enc : α → D) (xs : List α) : srtD (xs.map enc) = (xs.mergeSort (W.dataLe false enc)).map enc := by
  rw [srtD_def, List.map_mergeSort]
  intros
  rfl
theorem sort_eq {α : Type} {le : α → α → Bool} (tr : ∀ a b c, le a b = true → le b c = true → le a c = true) (to : ∀ a b, (le a b || le b a) = true) (an : ∀ a b, le a b = true → le b a = true → a = b) {l m : List α} (hp : m.Perm l) (hs : m.Pairwise fun a b => le a b = true) : l.mergeSort le = m :=
  List.Perm.eq_of_pairwise (fun a b _ _ h1 h2 => an a b h1 h2) (List.pairwise_mergeSort tr to l) hs ((List.mergeSort_perm l le).trans hp.symm)
abbrev leI : Int → Int → Bool := fun a b => decide (a ≤ b)
theorem srtD_ints (ns : List Int) : srtD (ns.map .int) = (ns.mergeSort leI).map .int := by
  have := srtD_map (fun n : Int => PyData.int n) ns
  rw [W.dataLe_int (fun n : Int => n)] at this
  exact this
theorem alike_ii (a b : Int) : W.alike (.int a) (.int b) = true := by rfl
theorem srtOk_ints (ns : List Int) : srtOk (ns.map .int) = true := by
  unfold srtOk
  rw [Bool.and_eq_true, Bool.and_eq_true]
  refine ⟨⟨?_, ?_⟩, ?_⟩
  · unfold allk
    rw [List.all_eq_true]
    intro x hx
    rw [List.all_eq_true]
    intro y hy
    obtain ⟨a, _, rfl⟩ := List.mem_map.mp hx
    obtain ⟨b, _, rfl⟩ := List.mem_map.mp hy
    rfl
  · unfold sbl
    rw [Bool.or_eq_true]
    right
    rw [List.all_eq_true]
    intro x hx
    obtain ⟨a, _, rfl⟩ := List.mem_map.mp hx
    rfl
  · rw [W.depth_ints]
    decide
theorem srtC_ints (ns : List Int) : srtC [.list (ns.map .int)] = some (.ow ((ns.mergeSort leI).map .int)) := by
  show (if srtOk (ns.map .int) = true then some (Vl.ow (srtD (ns.map .int))) else none) = _
  rw [if_pos (srtOk_ints ns), srtD_ints]
theorem leI_eq {l m : List Int} (hp : m.Perm l) (hs : m.Pairwise fun a b => a ≤ b) : l.mergeSort leI = m :=
  sort_eq (le := leI) (fun a b c h1 h2 => decide_eq_true (Int.le_trans (of_decide_eq_true h1) (of_decide_eq_true h2))) (fun a b => by
    rw [Bool.or_eq_true]
    exact (Int.le_total a b).imp decide_eq_true decide_eq_true) (fun a b h1 h2 => Int.le_antisymm (of_decide_eq_true h1) (of_decide_eq_true h2)) hp (hs.imp fun h => decide_eq_true h)
/-- the one between -/
theorem med_s {a d b : Int} (h : a ≤ b) : ∃ x y, [a, d, b].mergeSort leI = [x, min (max d a) b, y] := by
  by_cases h1 : d ≤ a
  · refine ⟨d, b, ?_⟩
    rw [show min (max d a) b = a by omega]
    exact leI_eq (List.Perm.swap a d [b]) (by simp; omega)
  · by_cases h2 : d ≤ b
    · refine ⟨a, b, ?_⟩
      rw [show min (max d a) b = d by omega]
      exact leI_eq (List.Perm.refl _) (by simp; omega)
    · refine ⟨a, d, ?_⟩
      rw [show min (max d a) b = b by omega]
      exact leI_eq (List.Perm.cons a (List.Perm.swap d b [])) (by simp; omega)
theorem ix1l (xs : List D) (x y : D) : ixV (.list (x :: y :: xs)) (.int 1) = some (.sh y) := by
  show (L2.atI (x :: y :: xs) ((1 : Nat) : Int)).map Vl.sh = _
  rw [atI_nat (v := y) rfl]; rfl
theorem ix0l (xs : List D) (x : D) : ixV (.list (x :: xs)) (.int 0) = some (.sh x) := by
  show (L2.atI (x :: xs) ((0 : Nat) : Int)).map Vl.sh = _
  rw [atI_nat (v := x) rfl]; rfl
/-! what visits do to all degrees -/
theorem sett_shape {fs : Fk} {ns : List Str} (hb : ∀ p ∈ fs, 0 ≤ p.2.1 ∧ p.2.1 ≤ p.2.2 ∧ p.2.2 ≤ 40) (hv : ∀ n ∈ ns, n ∈ fnames fs) : ∀ a b : Int, 0 ≤ a → a ≤ b → b ≤ 40 → ∃ a' b', 0 ≤ a' ∧ a' ≤ b' ∧ b' ≤ 40 ∧ ∀ d, 0 ≤ d → d ≤ 40 → endAt fs (min (max d a) b) ns = min (max d a') b' := by
  induction ns with
  | nil => exact fun a b h0 h1 h2 => ⟨a, b, h0, h1, h2, fun d _ _ => rfl⟩
  | cons n ns ih =>
    intro a b h0 h1 h2
    obtain ⟨hp, _⟩ := fget_mem (hv n List.mem_cons_self)
    obtain ⟨q0, q1, q2⟩ := hb _ hp
    obtain ⟨a', b', g0, g1, g2, g3⟩ := ih (fun m hm => hv m (List.mem_cons_of_mem _ hm)) (clamp (fget fs n) a) (clamp (fget fs n) b) (by unfold clamp; omega) (by unfold clamp; omega) (by unfold clamp; omega)
    refine ⟨a', b', g0, g1, g2, fun d d0 d1 => ?_⟩
    rw [← g3 d d0 d1]
    unfold endAt
    rw [sett, List.getLastD_cons]
    have e : clamp (fget fs n) (min (max d a) b) = min (max d (clamp (fget fs n) a)) (clamp (fget fs n) b) := by unfold clamp; omega
    rw [e]
theorem end_med {fs : Fk} {ns : List Str} (hb : ∀ p ∈ fs, 0 ≤ p.2.1 ∧ p.2.1 ≤ p.2.2 ∧ p.2.2 ≤ 40) (hv : ∀ n ∈ ns, n ∈ fnames fs) : 0 ≤ endAt fs 0 ns ∧ endAt fs 0 ns ≤ endAt fs 40 ns ∧ endAt fs 40 ns ≤ 40 ∧ ∀ d, 0 ≤ d → d ≤ 40 → endAt fs d ns = min (max d (endAt fs 0 ns)) (endAt fs 40 ns) := by
  obtain ⟨a, b, h0, h1, h2, h3⟩ := sett_shape hb hv 0 40 (by omega) (by omega) (by omega)
  have e0 := h3 0 (by omega) (by omega)
  have e1 := h3 40 (by omega) (by omega)
  rw [show min (max 0 0) 40 = (0 : Int) by omega, show min (max 0 a) b = a by omega] at e0
  rw [show min (max 40 0) 40 = (40 : Int) by omega, show min (max 40 a) b = b by omega] at e1
  refine ⟨by omega, by omega, by omega, fun d d0 d1 => ?_⟩
  have := h3 d d0 d1
  rw [show min (max d 0) 40 = d by omega] at this
  rw [this, e0, e1]
end Pv
namespace Pv
open PySem L2 PySem.Spec PyProof.Rows
/-- s goes on, with P -/
def Nx (s : DS) (env : Ev) (τ : Tp) (P : Ev → Prop) : Prop := ∃ env' τ', s env τ = some (.nx env', τ') ∧ P env'
/-- s goes on (or goes to the loop's next turn), with P -/
def Nc (s : DS) (env : Ev) (τ : Tp) (P : Ev → Prop) : Prop := ∃ env' τ', (s env τ = some (.nx env', τ') ∨ s env τ = some (.ct env', τ')) ∧ P env'
/-- s returns v -/
def Rt (s : DS) (env : Ev) (τ : Tp) (P : Vl → Prop) : Prop := ∃ v τ', s env τ = some (.rt v, τ') ∧ P v
section
variable {s t : DS} {env env' : Ev} {τ τ' τ1 : Tp} {P Q : Ev → Prop} {R : Vl → Prop} {c : DT} {it : DI} {b : DG}
theorem Nx.one (h : s env τ = some (.nx env', τ')) (p : P env') : Nx s env τ P := ⟨env', τ', h, p⟩
theorem Nx.nc (h : Nx s env τ P) : Nc s env τ P := let ⟨e, t, h1, h2⟩ := h; ⟨e, t, .inl h1, h2⟩
theorem Nx.mono (h : Nx s env τ P) (m : ∀ e, P e → Q e) : Nx s env τ Q := let ⟨e, t, h1, h2⟩ := h; ⟨e, t, h1, m e h2⟩
theorem Nx.seq (h : Nx s env τ P) (k : ∀ env' τ', P env' → Nx t env' τ' Q) : Nx (sSeq s t) env τ Q := by
  obtain ⟨e, τ1, h1, h2⟩ := h
  obtain ⟨e2, τ2, h3, h4⟩ := k e τ1 h2
  exact ⟨e2, τ2, by rw [sSeq_s, h1]; exact h3, h4⟩
theorem Nx.nil (p : P env) : Nx sNil env τ P := ⟨env, τ, rfl, p⟩
theorem Nx.ifT (h : c env τ = some (true, τ1)) (k : Nx s env τ1 P) : Nx (sIf c s t) env τ P := by
  obtain ⟨e, τ2, h1, h2⟩ := k
  exact ⟨e, τ2, by rw [sIf_s, h]; exact h1, h2⟩
theorem Nx.ifF (h : c env τ = some (false, τ1)) (k : Nx t env τ1 P) : Nx (sIf c s t) env τ P := by
  obtain ⟨e, τ2, h1, h2⟩ := k
  exact ⟨e, τ2, by rw [sIf_s, h]; exact h1, h2⟩
/-- a check that does not strike -/
theorem Nx.chk (h : c env τ = some (false, τ1)) (p : P env) : Nx (sIf c s sNil) env τ P := Nx.ifF h (.nil p)
theorem Rt.seq (h : Nx s env τ P) (k : ∀ env' τ', P env' → Rt t env' τ' R) : Rt (sSeq s t) env τ R := by
  obtain ⟨e, τ1, h1, h2⟩ := h
  obtain ⟨v, τ2, h3, h4⟩ := k e τ1 h2
  exact ⟨v, τ2, by rw [sSeq_s, h1]; exact h3, h4⟩
theorem Rt.one {v : Vl} (h : s env τ = some (.rt v, τ')) (p : R v) : Rt s env τ R := ⟨v, τ', h, p⟩
theorem Nx.loop {ds : List D} (I : Nat → Ev → Prop) (h : it env τ = some (ds, τ1)) (h0 : I 0 env) (step : ∀ (j : Nat) d env τ, ds[j]? = some d → I j env → ∃ env1, b d env = some env1 ∧ Nc s env1 τ (I (j + 1))) (fin : ∀ env', I ds.length env' → P env') : Nx (sFor it b s) env τ P := by
  obtain ⟨e, τ2, h1, h2⟩ := forL_ind (b := b) (body := s) (fun j e _ => I j e) (ds := ds) (i := 0) (env := env) (τ := τ1) h0 (fun j d env τ hj hI => by
    rw [Nat.zero_add] at hI
    obtain ⟨env1, g1, e, τ2, g2, g3⟩ := step j d env τ hj hI
    exact ⟨env1, e, τ2, g1, g2, by rw [Nat.zero_add]; exact g3⟩)
  rw [Nat.zero_add] at h2
  exact ⟨e, τ2, by rw [sFor_s, h]; exact h1, fin e h2⟩
/-- the invariant is the same at each turn -/
theorem Nx.loopI {ds : List D} (I : Ev → Prop) (h : it env τ = some (ds, τ1)) (h0 : I env) (step : ∀ d env τ, d ∈ ds → I env → ∃ env1, b d env = some env1 ∧ Nx s env1 τ I) (fin : ∀ env', I env' → P env') : Nx (sFor it b s) env τ P :=
  Nx.loop (fun _ e => I e) h h0 (fun j d env τ hj hI => by
    obtain ⟨env1, g1, g2⟩ := step d env τ (List.mem_of_getElem? hj) hI
    exact ⟨env1, g1, g2.nc⟩) fin
end
section
variable {tb : Nat → Option Df} {k : Nat}
theorem call_rt {i np nn : Nat} {b : (Nat → Cal) → DS} {as : List Vl} {τ : Tp} {R : Vl → Prop} (ht : tb i = some ⟨np, nn, b⟩) (h : as.length = np) (r : Rt (b (callK tb k)) (startE nn as) τ R) : ∃ v τ', callK tb (k + 1) i as τ = some (v, τ') ∧ R v := by
  obtain ⟨v, τ', h1, h2⟩ := r
  refine ⟨v, τ', ?_, h2⟩
  rw [call_s ht h]
  show bnd (b (callK tb k) (startE nn as) τ) _ = _
  rw [h1]
  rfl
end
theorem law_rt {b : DS} {n : Nat} {ns : List Int} (h : Rt b (lawE n) ⟨ns, 0, 0⟩ fun v => v = .sh (.bool true)) : ∃ τ, b (lawE n) ⟨ns, 0, 0⟩ = some (.rt (.sh (.bool true)), τ) := by
  obtain ⟨v, τ, h1, rfl⟩ := h
  exact ⟨τ, h1⟩
theorem lk_ints (ns : List Int) (h : ns.length ≤ 16777216) : Lk 1 (.list (ns.map .int)) := .inr ⟨_, .inl rfl, by simpa using h, fun x hx => by
  obtain ⟨a, _, rfl⟩ := List.mem_map.mp hx
  exact (rfl : sca (.int a) = true)⟩
theorem lk_int (i : Int) : Lk 0 (.int i) := (rfl : sca (.int i) = true)
theorem lk_ii (i j : Int) : Lk 1 (.tuple [.int i, .int j]) := .inr ⟨_, .inr rfl, by simp, fun x hx => by
  simp at hx
  rcases hx with rfl | rfl
  · exact (rfl : sca (.int i) = true)
  · exact (rfl : sca (.int j) = true)⟩
end Pv
namespace Pv
open PySem L2 PySem.Spec PyProof.Rows
theorem two_0 (τ : Tp) : callK tb 40 69 [.sh (.int ((0 : Nat) : Int))] τ = some (.sh (.bool true), τ) := by kernel_rfl
theorem two_1 (τ : Tp) : callK tb 40 69 [.sh (.int ((1 : Nat) : Int))] τ = some (.sh (.bool true), τ) := by kernel_rfl
theorem two_2 (τ : Tp) : callK tb 40 69 [.sh (.int ((2 : Nat) : Int))] τ = some (.sh (.bool true), τ) := by kernel_rfl
theorem two_3 (τ : Tp) : callK tb 40 69 [.sh (.int ((3 : Nat) : Int))] τ = some (.sh (.bool true), τ) := by kernel_rfl
theorem two_4 (τ : Tp) : callK tb 40 69 [.sh (.int ((4 : Nat) : Int))] τ = some (.sh (.bool true), τ) := by kernel_rfl
theorem two_5 (τ : Tp) : callK tb 40 69 [.sh (.int ((5 : Nat) : Int))] τ = some (.sh (.bool true), τ) := by kernel_rfl
theorem two_6 (τ : Tp) : callK tb 40 69 [.sh (.int ((6 : Nat) : Int))] τ = some (.sh (.bool true), τ) := by kernel_rfl
theorem two_7 (τ : Tp) : callK tb 40 69 [.sh (.int ((7 : Nat) : Int))] τ = some (.sh (.bool true), τ) := by kernel_rfl
theorem two_8 (τ : Tp) : callK tb 40 69 [.sh (.int ((8 : Nat) : Int))] τ = some (.sh (.bool true), τ) := by kernel_rfl
theorem two_9 (τ : Tp) : callK tb 40 69 [.sh (.int ((9 : Nat) : Int))] τ = some (.sh (.bool true), τ) := by kernel_rfl
theorem two_10 (τ : Tp) : callK tb 40 69 [.sh (.int ((10 : Nat) : Int))] τ = some (.sh (.bool true), τ) := by kernel_rfl
theorem two_11 (τ : Tp) : callK tb 40 69 [.sh (.int ((11 : Nat) : Int))] τ = some (.sh (.bool true), τ) := by kernel_rfl
theorem two_12 (τ : Tp) : callK tb 40 69 [.sh (.int ((12 : Nat) : Int))] τ = some (.sh (.bool true), τ) := by kernel_rfl
theorem two_13 (τ : Tp) : callK tb 40 69 [.sh (.int ((13 : Nat) : Int))] τ = some (.sh (.bool true), τ) := by kernel_rfl
theorem two_14 (τ : Tp) : callK tb 40 69 [.sh (.int ((14 : Nat) : Int))] τ = some (.sh (.bool true), τ) := by kernel_rfl
theorem two_15 (τ : Tp) : callK tb 40 69 [.sh (.int ((15 : Nat) : Int))] τ = some (.sh (.bool true), τ) := by kernel_rfl
theorem two_16 (τ : Tp) : callK tb 40 69 [.sh (.int ((16 : Nat) : Int))] τ = some (.sh (.bool true), τ) := by kernel_rfl
theorem two_17 (τ : Tp) : callK tb 40 69 [.sh (.int ((17 : Nat) : Int))] τ = some (.sh (.bool true), τ) := by kernel_rfl
theorem two_18 (τ : Tp) : callK tb 40 69 [.sh (.int ((18 : Nat) : Int))] τ = some (.sh (.bool true), τ) := by kernel_rfl
theorem two_19 (τ : Tp) : callK tb 40 69 [.sh (.int ((19 : Nat) : Int))] τ = some (.sh (.bool true), τ) := by kernel_rfl
theorem two_20 (τ : Tp) : callK tb 40 69 [.sh (.int ((20 : Nat) : Int))] τ = some (.sh (.bool true), τ) := by kernel_rfl
theorem two_21 (τ : Tp) : callK tb 40 69 [.sh (.int ((21 : Nat) : Int))] τ = some (.sh (.bool true), τ) := by kernel_rfl
theorem two_22 (τ : Tp) : callK tb 40 69 [.sh (.int ((22 : Nat) : Int))] τ = some (.sh (.bool true), τ) := by kernel_rfl
theorem two_23 (τ : Tp) : callK tb 40 69 [.sh (.int ((23 : Nat) : Int))] τ = some (.sh (.bool true), τ) := by kernel_rfl
theorem two_24 (τ : Tp) : callK tb 40 69 [.sh (.int ((24 : Nat) : Int))] τ = some (.sh (.bool true), τ) := by kernel_rfl
theorem two_25 (τ : Tp) : callK tb 40 69 [.sh (.int ((25 : Nat) : Int))] τ = some (.sh (.bool true), τ) := by kernel_rfl
theorem two_26 (τ : Tp) : callK tb 40 69 [.sh (.int ((26 : Nat) : Int))] τ = some (.sh (.bool true), τ) := by kernel_rfl
theorem two_27 (τ : Tp) : callK tb 40 69 [.sh (.int ((27 : Nat) : Int))] τ = some (.sh (.bool true), τ) := by kernel_rfl
theorem two_28 (τ : Tp) : callK tb 40 69 [.sh (.int ((28 : Nat) : Int))] τ = some (.sh (.bool true), τ) := by kernel_rfl
theorem two_29 (τ : Tp) : callK tb 40 69 [.sh (.int ((29 : Nat) : Int))] τ = some (.sh (.bool true), τ) := by kernel_rfl
theorem two_30 (τ : Tp) : callK tb 40 69 [.sh (.int ((30 : Nat) : Int))] τ = some (.sh (.bool true), τ) := by kernel_rfl
theorem four_0 (τ : Tp) : callK tb 40 71 [.sh (.int ((0 : Nat) : Int))] τ = some (.sh (.bool true), τ) := by kernel_rfl
theorem four_1 (τ : Tp) : callK tb 40 71 [.sh (.int ((1 : Nat) : Int))] τ = some (.sh (.bool true), τ) := by kernel_rfl
theorem four_2 (τ : Tp) : callK tb 40 71 [.sh (.int ((2 : Nat) : Int))] τ = some (.sh (.bool true), τ) := by kernel_rfl
theorem four_3 (τ : Tp) : callK tb 40 71 [.sh (.int ((3 : Nat) : Int))] τ = some (.sh (.bool true), τ) := by kernel_rfl
theorem four_4 (τ : Tp) : callK tb 40 71 [.sh (.int ((4 : Nat) : Int))] τ = some (.sh (.bool true), τ) := by kernel_rfl
theorem four_5 (τ : Tp) : callK tb 40 71 [.sh (.int ((5 : Nat) : Int))] τ = some (.sh (.bool true), τ) := by kernel_rfl
theorem four_6 (τ : Tp) : callK tb 40 71 [.sh (.int ((6 : Nat) : Int))] τ = some (.sh (.bool true), τ) := by kernel_rfl
theorem four_7 (τ : Tp) : callK tb 40 71 [.sh (.int ((7 : Nat) : Int))] τ = some (.sh (.bool true), τ) := by kernel_rfl
theorem four_8 (τ : Tp) : callK tb 40 71 [.sh (.int ((8 : Nat) : Int))] τ = some (.sh (.bool true), τ) := by kernel_rfl
theorem four_9 (τ : Tp) : callK tb 40 71 [.sh (.int ((9 : Nat) : Int))] τ = some (.sh (.bool true), τ) := by kernel_rfl
theorem four_10 (τ : Tp) : callK tb 40 71 [.sh (.int ((10 : Nat) : Int))] τ = some (.sh (.bool true), τ) := by kernel_rfl
theorem four_11 (τ : Tp) : callK tb 40 71 [.sh (.int ((11 : Nat) : Int))] τ = some (.sh (.bool true), τ) := by kernel_rfl
theorem four_12 (τ : Tp) : callK tb 40 71 [.sh (.int ((12 : Nat) : Int))] τ = some (.sh (.bool true), τ) := by kernel_rfl
theorem four_13 (τ : Tp) : callK tb 40 71 [.sh (.int ((13 : Nat) : Int))] τ = some (.sh (.bool true), τ) := by kernel_rfl
theorem four_14 (τ : Tp) : callK tb 40 71 [.sh (.int ((14 : Nat) : Int))] τ = some (.sh (.bool true), τ) := by kernel_rfl
theorem four_15 (τ : Tp) : callK tb 40 71 [.sh (.int ((15 : Nat) : Int))] τ = some (.sh (.bool true), τ) := by kernel_rfl
theorem four_16 (τ : Tp) : callK tb 40 71 [.sh (.int ((16 : Nat) : Int))] τ = some (.sh (.bool true), τ) := by kernel_rfl
theorem four_17 (τ : Tp) : callK tb 40 71 [.sh (.int ((17 : Nat) : Int))] τ = some (.sh (.bool true), τ) := by kernel_rfl
theorem four_18 (τ : Tp) : callK tb 40 71 [.sh (.int ((18 : Nat) : Int))] τ = some (.sh (.bool true), τ) := by kernel_rfl
theorem four_19 (τ : Tp) : callK tb 40 71 [.sh (.int ((19 : Nat) : Int))] τ = some (.sh (.bool true), τ) := by kernel_rfl
theorem four_20 (τ : Tp) : callK tb 40 71 [.sh (.int ((20 : Nat) : Int))] τ = some (.sh (.bool true), τ) := by kernel_rfl
theorem four_21 (τ : Tp) : callK tb 40 71 [.sh (.int ((21 : Nat) : Int))] τ = some (.sh (.bool true), τ) := by kernel_rfl
theorem four_22 (τ : Tp) : callK tb 40 71 [.sh (.int ((22 : Nat) : Int))] τ = some (.sh (.bool true), τ) := by kernel_rfl
theorem four_23 (τ : Tp) : callK tb 40 71 [.sh (.int ((23 : Nat) : Int))] τ = some (.sh (.bool true), τ) := by kernel_rfl
theorem four_24 (τ : Tp) : callK tb 40 71 [.sh (.int ((24 : Nat) : Int))] τ = some (.sh (.bool true), τ) := by kernel_rfl
theorem four_25 (τ : Tp) : callK tb 40 71 [.sh (.int ((25 : Nat) : Int))] τ = some (.sh (.bool true), τ) := by kernel_rfl
theorem four_26 (τ : Tp) : callK tb 40 71 [.sh (.int ((26 : Nat) : Int))] τ = some (.sh (.bool true), τ) := by kernel_rfl
theorem four_27 (τ : Tp) : callK tb 40 71 [.sh (.int ((27 : Nat) : Int))] τ = some (.sh (.bool true), τ) := by kernel_rfl
theorem four_28 (τ : Tp) : callK tb 40 71 [.sh (.int ((28 : Nat) : Int))] τ = some (.sh (.bool true), τ) := by kernel_rfl
theorem four_29 (τ : Tp) : callK tb 40 71 [.sh (.int ((29 : Nat) : Int))] τ = some (.sh (.bool true), τ) := by kernel_rfl
theorem four_30 (τ : Tp) : callK tb 40 71 [.sh (.int ((30 : Nat) : Int))] τ = some (.sh (.bool true), τ) := by kernel_rfl
theorem four_31 (τ : Tp) : callK tb 40 71 [.sh (.int ((31 : Nat) : Int))] τ = some (.sh (.bool true), τ) := by kernel_rfl
theorem four_32 (τ : Tp) : callK tb 40 71 [.sh (.int ((32 : Nat) : Int))] τ = some (.sh (.bool true), τ) := by kernel_rfl
theorem two_all : ∀ n : Nat, n < 31 → ∀ τ, callK tb 40 69 [.sh (.int (n : Int))] τ = some (.sh (.bool true), τ)
  | 0, _ => two_0
  | 1, _ => two_1
  | 2, _ => two_2
  | 3, _ => two_3
  | 4, _ => two_4
  | 5, _ => two_5
  | 6, _ => two_6
  | 7, _ => two_7
  | 8, _ => two_8
  | 9, _ => two_9
  | 10, _ => two_10
  | 11, _ => two_11
  | 12, _ => two_12
  | 13, _ => two_13
  | 14, _ => two_14
  | 15, _ => two_15
  | 16, _ => two_16
  | 17, _ => two_17
  | 18, _ => two_18
  | 19, _ => two_19
  | 20, _ => two_20
  | 21, _ => two_21
  | 22, _ => two_22
  | 23, _ => two_23
  | 24, _ => two_24
  | 25, _ => two_25
  | 26, _ => two_26
  | 27, _ => two_27
  | 28, _ => two_28
  | 29, _ => two_29
  | 30, _ => two_30
  | n + 31, h => by omega
theorem four_all : ∀ n : Nat, n < 33 → ∀ τ, callK tb 40 71 [.sh (.int (n : Int))] τ = some (.sh (.bool true), τ)
  | 0, _ => four_0
  | 1, _ => four_1
  | 2, _ => four_2
  | 3, _ => four_3
  | 4, _ => four_4
  | 5, _ => four_5
  | 6, _ => four_6
  | 7, _ => four_7
  | 8, _ => four_8
  | 9, _ => four_9
  | 10, _ => four_10
  | 11, _ => four_11
  | 12, _ => four_12
  | 13, _ => four_13
  | 14, _ => four_14
  | 15, _ => four_15
  | 16, _ => four_16
  | 17, _ => four_17
  | 18, _ => four_18
  | 19, _ => four_19
  | 20, _ => four_20
  | 21, _ => four_21
  | 22, _ => four_22
  | 23, _ => four_23
  | 24, _ => four_24
  | 25, _ => four_25
  | 26, _ => four_26
  | 27, _ => four_27
  | 28, _ => four_28
  | 29, _ => four_29
  | 30, _ => four_30
  | 31, _ => four_31
  | 32, _ => four_32
  | n + 33, h => by omega
theorem law_pure (sc : List Int) (_ : sc.length ≤ 63) : ∃ τ, bl (callK tb 40) (lawE 5) ⟨sc, 0, 0⟩ = some (.rt (.sh (.bool true)), τ) := by
  refine law_rt (Rt.seq (P := fun env => ∃ y2 y3 y4, env = [none, some .tp, y2, y3, y4]) (Nx.loopI (ds := rngL 0 3) (fun env => ∃ y2 y3 y4, env = [none, some .tp, y2, y3, y4]) rfl ⟨_, _, _, rfl⟩ (fun t env τ ht hI => ?_) fun _ h => h) fun env τ he => ?_)
  · obtain ⟨a, b, c, rfl⟩ := hI
    refine ⟨_, rfl, ?_⟩
    obtain ⟨r1, τ1, g1, r10, r11⟩ := draw (tb := tb) (k := 39) rfl (m := 31) (by decide) (by decide) τ
    obtain ⟨r2, τ2, g2, r20, r21⟩ := draw (tb := tb) (k := 39) rfl (m := 33) (by decide) (by decide) τ1
    have g1 : callK tb 40 4 [.tp, .sh (.int 31)] τ = some (.sh (.int r1), τ1) := g1
    have g2 : callK tb 40 4 [.tp, .sh (.int 33)] τ1 = some (.sh (.int r2), τ2) := g2
    obtain ⟨n1, rfl⟩ := Int.eq_ofNat_of_zero_le r10
    obtain ⟨n2, rfl⟩ := Int.eq_ofNat_of_zero_le r20
    have t1 := two_all n1 (by omega)
    have t2 := four_all n2 (by omega)
    exact Nx.chk (τ1 := τ2) (by simp [g1, g2, t1, t2]) ⟨_, _, _, rfl⟩
  · obtain ⟨a, b, c, rfl⟩ := he
    exact ⟨.sh (.bool true), τ, by kernel_rfl, rfl⟩
end Pv
namespace Pv
open PySem L2 PySem.Spec PyProof.Rows
def topS (i : Nat) : Stmt := PySem.Challenge.pw_warmwheel_k11_written_cases_and_names.main.body.getD i (.Pass ⟨0, 0, 0, 0⟩)
abbrev s_is_within : Stmt := topS 4
theorem sc_is_within : FnScope ["thing", "low", "high"] ["thing", "low", "high"] (defScope s_is_within) := ⟨rfl, rfl, rfl, by decide +kernel, rfl, by decide +kernel, by decide +kernel⟩
abbrev s_is_name : Stmt := topS 5
theorem sc_is_name : FnScope ["thing", "sign"] ["thing"] (defScope s_is_name) := ⟨rfl, rfl, rfl, by decide +kernel, rfl, by decide +kernel, by decide +kernel⟩
abbrev s_is_one : Stmt := topS 6
theorem sc_is_one : FnScope ["thing"] ["thing"] (defScope s_is_one) := ⟨rfl, rfl, rfl, by decide +kernel, rfl, by decide +kernel, by decide +kernel⟩
abbrev s_are_folk : Stmt := topS 7
theorem sc_are_folk : FnScope ["thing", "one", "names", "two"] ["thing"] (defScope s_are_folk) := ⟨rfl, rfl, rfl, by decide +kernel, rfl, by decide +kernel, by decide +kernel⟩
abbrev s_suited : Stmt := topS 8
theorem sc_suited : FnScope ["one", "degree", "name", "low", "high"] ["one", "degree"] (defScope s_suited) := ⟨rfl, rfl, rfl, by decide +kernel, rfl, by decide +kernel, by decide +kernel⟩
abbrev s_settings : Stmt := topS 9
theorem sc_settings : FnScope ["folk", "degree", "visits", "by_name", "one", "found", "name"] ["folk", "degree", "visits"] (defScope s_settings) := ⟨rfl, rfl, rfl, by decide +kernel, rfl, by decide +kernel, by decide +kernel⟩
abbrev s_turned : Stmt := topS 10
theorem sc_turned : FnScope ["folk", "degree", "visits", "rows", "one", "other"] ["folk", "degree", "visits"] (defScope s_turned) := ⟨rfl, rfl, rfl, by decide +kernel, rfl, by decide +kernel, by decide +kernel⟩
abbrev s_two_numbers : Stmt := topS 11
theorem sc_two_numbers : FnScope ["folk", "visits"] ["folk", "visits"] (defScope s_two_numbers) := ⟨rfl, rfl, rfl, by decide +kernel, rfl, by decide +kernel, by decide +kernel⟩
abbrev s_first_day : Stmt := topS 13
theorem sc_first_day : FnScope ["folk", "degree", "order"] ["folk", "degree", "order"] (defScope s_first_day) := ⟨rfl, rfl, rfl, by decide +kernel, rfl, by decide +kernel, by decide +kernel⟩
abbrev s_far_setting : Stmt := topS 14
theorem sc_far_setting : FnScope ["folk", "degree", "order", "days"] ["folk", "degree", "order", "days"] (defScope s_far_setting) := ⟨rfl, rfl, rfl, by decide +kernel, rfl, by decide +kernel, by decide +kernel⟩
abbrev s_each_day : Stmt := topS 15
theorem sc_each_day : FnScope ["folk", "order"] ["folk", "order"] (defScope s_each_day) := ⟨rfl, rfl, rfl, by decide +kernel, rfl, by decide +kernel, by decide +kernel⟩
abbrev s_far_turned : Stmt := topS 16
theorem sc_far_turned : FnScope ["folk", "degree", "order", "days"] ["folk", "degree", "order", "days"] (defScope s_far_turned) := ⟨rfl, rfl, rfl, by decide +kernel, rfl, by decide +kernel, by decide +kernel⟩
abbrev s_moves : Stmt := topS 17
theorem sc_moves : FnScope ["folk", "order", "here", "found", "name", "there"] ["folk", "order"] (defScope s_moves) := ⟨rfl, rfl, rfl, by decide +kernel, rfl, by decide +kernel, by decide +kernel⟩
abbrev s_crossed : Stmt := topS 18
theorem sc_crossed : FnScope ["folk", "order", "rows", "found", "step", "name", "one", "other"] ["folk", "order"] (defScope s_crossed) := ⟨rfl, rfl, rfl, by decide +kernel, rfl, by decide +kernel, by decide +kernel⟩
abbrev s_shares : Stmt := topS 19
theorem sc_shares : FnScope ["folk", "order", "name", "one", "other"] ["folk", "order"] (defScope s_shares) := ⟨rfl, rfl, rfl, by decide +kernel, rfl, by decide +kernel, by decide +kernel⟩
abbrev s_names_of : Stmt := topS 21
theorem sc_names_of : FnScope ["folk", "one"] ["folk"] (defScope s_names_of) := ⟨rfl, rfl, rfl, by decide +kernel, rfl, by decide +kernel, by decide +kernel⟩
abbrev s_greatest_low : Stmt := topS 22
theorem sc_greatest_low : FnScope ["folk", "name", "low", "high"] ["folk"] (defScope s_greatest_low) := ⟨rfl, rfl, rfl, by decide +kernel, rfl, by decide +kernel, by decide +kernel⟩
abbrev s_least_high : Stmt := topS 23
theorem sc_least_high : FnScope ["folk", "name", "low", "high"] ["folk"] (defScope s_least_high) := ⟨rfl, rfl, rfl, by decide +kernel, rfl, by decide +kernel, by decide +kernel⟩
abbrev s_lesser_side : Stmt := topS 24
theorem sc_lesser_side : FnScope ["folk", "step", "below", "name", "low", "high", "above"] ["folk", "step"] (defScope s_lesser_side) := ⟨rfl, rfl, rfl, by decide +kernel, rfl, by decide +kernel, by decide +kernel⟩
abbrev s_most_crossed : Stmt := topS 25
theorem sc_most_crossed : FnScope ["folk", "step"] ["folk"] (defScope s_most_crossed) := ⟨rfl, rfl, rfl, by decide +kernel, rfl, by decide +kernel, by decide +kernel⟩
abbrev s_most : Stmt := topS 26
theorem sc_most : FnScope ["folk"] ["folk"] (defScope s_most) := ⟨rfl, rfl, rfl, by decide +kernel, rfl, by decide +kernel, by decide +kernel⟩
abbrev s_least : Stmt := topS 27
theorem sc_least : FnScope ["folk"] ["folk"] (defScope s_least) := ⟨rfl, rfl, rfl, by decide +kernel, rfl, by decide +kernel, by decide +kernel⟩
abbrev s_most_order : Stmt := topS 28
theorem sc_most_order : FnScope ["folk", "many", "step", "by_high", "by_low", "lows", "highs", "rest", "name", "low", "high", "found", "one", "other"] ["folk"] (defScope s_most_order) := ⟨rfl, rfl, rfl, by decide +kernel, rfl, by decide +kernel, by decide +kernel⟩
abbrev s_least_order : Stmt := topS 29
theorem sc_least_order : FnScope ["folk", "high", "name", "low"] ["folk"] (defScope s_least_order) := ⟨rfl, rfl, rfl, by decide +kernel, rfl, by decide +kernel, by decide +kernel⟩
abbrev s_orders : Stmt := topS 30
theorem sc_orders : FnScope ["names", "found", "name", "row", "at"] ["names"] (defScope s_orders) := ⟨rfl, rfl, rfl, by decide +kernel, rfl, by decide +kernel, by decide +kernel⟩
abbrev s_amounts : Stmt := topS 31
theorem sc_amounts : FnScope ["folk", "order"] ["folk"] (defScope s_amounts) := ⟨rfl, rfl, rfl, by decide +kernel, rfl, by decide +kernel, by decide +kernel⟩
abbrev s_most_by : Stmt := topS 32
theorem sc_most_by : FnScope ["folk", "name", "one", "row", "others"] ["folk", "name"] (defScope s_most_by) := ⟨rfl, rfl, rfl, by decide +kernel, rfl, by decide +kernel, by decide +kernel⟩
abbrev s_onlookers : Stmt := topS 33
theorem sc_onlookers : FnScope ["folk", "name"] ["folk"] (defScope s_onlookers) := ⟨rfl, rfl, rfl, by decide +kernel, rfl, by decide +kernel, by decide +kernel⟩
abbrev s_known : Stmt := topS 35
theorem sc_known : FnScope ["folk", "names", "visits", "name", "one", "other", "least", "greatest"] ["folk"] (defScope s_known) := ⟨rfl, rfl, rfl, by decide +kernel, rfl, by decide +kernel, by decide +kernel⟩
abbrev s_suits_all : Stmt := topS 36
theorem sc_suits_all : FnScope ["folk", "low", "high"] ["folk"] (defScope s_suits_all) := ⟨rfl, rfl, rfl, by decide +kernel, rfl, by decide +kernel, by decide +kernel⟩
abbrev s_at_home : Stmt := topS 37
theorem sc_at_home : FnScope ["folk", "rows", "degree", "out", "name", "low", "high"] ["folk"] (defScope s_at_home) := ⟨rfl, rfl, rfl, by decide +kernel, rfl, by decide +kernel, by decide +kernel⟩
abbrev s_widened : Stmt := topS 38
theorem sc_widened : FnScope ["folk"] ["folk"] (defScope s_widened) := ⟨rfl, rfl, rfl, by decide +kernel, rfl, by decide +kernel, by decide +kernel⟩
abbrev s__law_draw : Stmt := topS 40
theorem sc__law_draw : FnScope ["tape", "many", "prime", "cell", "found"] ["tape", "many"] (defScope s__law_draw) := ⟨rfl, rfl, rfl, by decide +kernel, rfl, by decide +kernel, by decide +kernel⟩
abbrev s__law_like : Stmt := topS 41
theorem sc__law_like : FnScope ["one", "two", "k"] ["one", "two"] (defScope s__law_like) := ⟨rfl, rfl, rfl, by decide +kernel, rfl, by decide +kernel, by decide +kernel⟩
abbrev s__law_two_right : Stmt := topS 42
theorem sc__law_two_right : FnScope ["by", "my_folk", "my_order", "rows"] ["by"] (defScope s__law_two_right) := ⟨rfl, rfl, rfl, by decide +kernel, rfl, by decide +kernel, by decide +kernel⟩
abbrev s__law_three_right : Stmt := topS 43
theorem sc__law_three_right : FnScope ["by", "my_folk", "my_order", "step", "some", "told"] ["by", "my_folk", "my_order"] (defScope s__law_three_right) := ⟨rfl, rfl, rfl, by decide +kernel, rfl, by decide +kernel, by decide +kernel⟩
abbrev s__law_four_right : Stmt := topS 44
theorem sc__law_four_right : FnScope ["by", "my_folk"] ["by"] (defScope s__law_four_right) := ⟨rfl, rfl, rfl, by decide +kernel, rfl, by decide +kernel, by decide +kernel⟩
abbrev s_law : Stmt := topS 45
theorem sc_law : FnScope ["script", "tape", "turn", "sole", "found"] ["script"] (defScope s_law) := ⟨rfl, rfl, rfl, by decide +kernel, rfl, by decide +kernel, by decide +kernel⟩
structure Bn (mg : Str → Option Value) : Prop where
  m_abs : mg "abs" = none
  m_all : mg "all" = none
  m_bool : mg "bool" = none
  m_int : mg "int" = none
  m_isinstance : mg "isinstance" = none
  m_len : mg "len" = none
  m_list : mg "list" = none
  m_max : mg "max" = none
  m_min : mg "min" = none
  m_range : mg "range" = none
  m_sorted : mg "sorted" = none
  m_str : mg "str" = none
  m_sum : mg "sum" = none
  m_tuple : mg "tuple" = none
  m_zip : mg "zip" = none
  g_LETTERS : ∃ t, mg "LETTERS" = some (.str ("abcdefghijklmnopqrstuvwxyz" : Str) t)
  g_MOST_FOLK : ∃ t, mg "MOST_FOLK" = some (.int 6 t)
  g_TOP : ∃ t, mg "TOP" = some (.int 40 t)
section
variable [Tbl]
structure All (P : Program) (w : World) (K : PySem.W.Frag) (mg : Str → Option Value) (base : Heap) (k : Nat) : Prop where
  h_is_within : Has P w K mg base k "is_within" 3 (callK tb k 0)
  h_is_name : Has P w K mg base k "is_name" 1 (callK tb k 1)
  h_is_one : Has P w K mg base k "is_one" 1 (callK tb k 2)
  h_are_folk : Has P w K mg base k "are_folk" 1 (callK tb k 3)
  h_suited : Has P w K mg base k "suited" 2 (callK tb k 15)
  h_settings : Has P w K mg base k "settings" 3 (callK tb k 16)
  h_turned : Has P w K mg base k "turned" 3 (callK tb k 17)
  h_two_numbers : Has P w K mg base k "two_numbers" 2 (callK tb k 18)
  h_first_day : Has P w K mg base k "first_day" 3 (callK tb k 26)
  h_far_setting : Has P w K mg base k "far_setting" 4 (callK tb k 27)
  h_each_day : Has P w K mg base k "each_day" 2 (callK tb k 28)
  h_far_turned : Has P w K mg base k "far_turned" 4 (callK tb k 29)
  h_moves : Has P w K mg base k "moves" 2 (callK tb k 35)
  h_crossed : Has P w K mg base k "crossed" 2 (callK tb k 36)
  h_shares : Has P w K mg base k "shares" 2 (callK tb k 37)
  h_names_of : Has P w K mg base k "names_of" 1 (callK tb k 46)
  h_greatest_low : Has P w K mg base k "greatest_low" 1 (callK tb k 47)
  h_least_high : Has P w K mg base k "least_high" 1 (callK tb k 48)
  h_lesser_side : Has P w K mg base k "lesser_side" 2 (callK tb k 39)
  h_most_crossed : Has P w K mg base k "most_crossed" 1 (callK tb k 40)
  h_most : Has P w K mg base k "most" 1 (callK tb k 41)
  h_least : Has P w K mg base k "least" 1 (callK tb k 49)
  h_most_order : Has P w K mg base k "most_order" 1 (callK tb k 42)
  h_least_order : Has P w K mg base k "least_order" 1 (callK tb k 50)
  h_orders : Has P w K mg base k "orders" 1 (callK tb k 51)
  h_amounts : Has P w K mg base k "amounts" 1 (callK tb k 52)
  h_most_by : Has P w K mg base k "most_by" 2 (callK tb k 54)
  h_onlookers : Has P w K mg base k "onlookers" 1 (callK tb k 55)
  h_known : Has P w K mg base k "known" 1 (callK tb k 57)
  h_suits_all : Has P w K mg base k "suits_all" 1 (callK tb k 58)
  h_at_home : Has P w K mg base k "at_home" 1 (callK tb k 59)
  h_widened : Has P w K mg base k "widened" 1 (callK tb k 60)
  h__law_draw : Has P w K mg base k "_law_draw" 2 (callK tb k 4)
  h__law_like : Has P w K mg base k "_law_like" 2 (callK tb k 7)
  h__law_two_right : Has P w K mg base k "_law_two_right" 1 (callK tb k 69)
  h__law_three_right : Has P w K mg base k "_law_three_right" 3 (callK tb k 70)
  h__law_four_right : Has P w K mg base k "_law_four_right" 1 (callK tb k 71)
  kw_are_folk : KwOk K mg "are_folk" ["thing"]
  kw_settings : KwOk K mg "settings" ["folk", "degree", "visits"]
  kw_turned : KwOk K mg "turned" ["folk", "degree", "visits"]
  kw_two_numbers : KwOk K mg "two_numbers" ["folk", "visits"]
  kw_far_setting : KwOk K mg "far_setting" ["folk", "degree", "order", "days"]
  kw_each_day : KwOk K mg "each_day" ["folk", "order"]
  kw_far_turned : KwOk K mg "far_turned" ["folk", "degree", "order", "days"]
  kw_crossed : KwOk K mg "crossed" ["folk", "order"]
  kw_shares : KwOk K mg "shares" ["folk", "order"]
  kw_most_crossed : KwOk K mg "most_crossed" ["folk"]
  kw_most : KwOk K mg "most" ["folk"]
  kw_least : KwOk K mg "least" ["folk"]
  kw_most_order : KwOk K mg "most_order" ["folk"]
  kw_least_order : KwOk K mg "least_order" ["folk"]
  kw_amounts : KwOk K mg "amounts" ["folk"]
  kw_most_by : KwOk K mg "most_by" ["folk", "name"]
  kw_onlookers : KwOk K mg "onlookers" ["folk"]
  kw_known : KwOk K mg "known" ["folk"]
  kw_suits_all : KwOk K mg "suits_all" ["folk"]
  kw_at_home : KwOk K mg "at_home" ["folk"]
  kw_widened : KwOk K mg "widened" ["folk"]
structure Fds (K : PySem.W.Frag) (mg : Str → Option Value) (cL : Addr) : Prop where
  f_is_within : Fd K mg "is_within" s_is_within ["thing", "low", "high"]
  f_is_name : Fd K mg "is_name" s_is_name ["thing"]
  f_is_one : Fd K mg "is_one" s_is_one ["thing"]
  f_are_folk : Fd K mg "are_folk" s_are_folk ["thing"]
  f_suited : Fd K mg "suited" s_suited ["one", "degree"]
  f_settings : Fd K mg "settings" s_settings ["folk", "degree", "visits"]
  f_turned : Fd K mg "turned" s_turned ["folk", "degree", "visits"]
  f_two_numbers : Fd K mg "two_numbers" s_two_numbers ["folk", "visits"]
  f_first_day : Fd K mg "first_day" s_first_day ["folk", "degree", "order"]
  f_far_setting : Fd K mg "far_setting" s_far_setting ["folk", "degree", "order", "days"]
  f_each_day : Fd K mg "each_day" s_each_day ["folk", "order"]
  f_far_turned : Fd K mg "far_turned" s_far_turned ["folk", "degree", "order", "days"]
  f_moves : Fd K mg "moves" s_moves ["folk", "order"]
  f_crossed : Fd K mg "crossed" s_crossed ["folk", "order"]
  f_shares : Fd K mg "shares" s_shares ["folk", "order"]
  f_names_of : Fd K mg "names_of" s_names_of ["folk"]
  f_greatest_low : Fd K mg "greatest_low" s_greatest_low ["folk"]
  f_least_high : Fd K mg "least_high" s_least_high ["folk"]
  f_lesser_side : Fd K mg "lesser_side" s_lesser_side ["folk", "step"]
  f_most_crossed : Fd K mg "most_crossed" s_most_crossed ["folk"]
  f_most : Fd K mg "most" s_most ["folk"]
  f_least : Fd K mg "least" s_least ["folk"]
  f_most_order : FdC K mg "most_order" s_most_order ["folk"] cL
  f_least_order : Fd K mg "least_order" s_least_order ["folk"]
  f_orders : Fd K mg "orders" s_orders ["names"]
  f_amounts : Fd K mg "amounts" s_amounts ["folk"]
  f_most_by : Fd K mg "most_by" s_most_by ["folk", "name"]
  f_onlookers : Fd K mg "onlookers" s_onlookers ["folk"]
  f_known : Fd K mg "known" s_known ["folk"]
  f_suits_all : Fd K mg "suits_all" s_suits_all ["folk"]
  f_at_home : Fd K mg "at_home" s_at_home ["folk"]
  f_widened : Fd K mg "widened" s_widened ["folk"]
  f__law_draw : Fd K mg "_law_draw" s__law_draw ["tape", "many"]
  f__law_like : Fd K mg "_law_like" s__law_like ["one", "two"]
  f__law_two_right : Fd K mg "_law_two_right" s__law_two_right ["by"]
  f__law_three_right : Fd K mg "_law_three_right" s__law_three_right ["by", "my_folk", "my_order"]
  f__law_four_right : Fd K mg "_law_four_right" s__law_four_right ["by"]
  kw_are_folk : KwOk K mg "are_folk" ["thing"]
  kw_settings : KwOk K mg "settings" ["folk", "degree", "visits"]
  kw_turned : KwOk K mg "turned" ["folk", "degree", "visits"]
  kw_two_numbers : KwOk K mg "two_numbers" ["folk", "visits"]
  kw_far_setting : KwOk K mg "far_setting" ["folk", "degree", "order", "days"]
  kw_each_day : KwOk K mg "each_day" ["folk", "order"]
  kw_far_turned : KwOk K mg "far_turned" ["folk", "degree", "order", "days"]
  kw_crossed : KwOk K mg "crossed" ["folk", "order"]
  kw_shares : KwOk K mg "shares" ["folk", "order"]
  kw_most_crossed : KwOk K mg "most_crossed" ["folk"]
  kw_most : KwOk K mg "most" ["folk"]
  kw_least : KwOk K mg "least" ["folk"]
  kw_most_order : KwOk K mg "most_order" ["folk"]
  kw_least_order : KwOk K mg "least_order" ["folk"]
  kw_amounts : KwOk K mg "amounts" ["folk"]
  kw_most_by : KwOk K mg "most_by" ["folk", "name"]
  kw_onlookers : KwOk K mg "onlookers" ["folk"]
  kw_known : KwOk K mg "known" ["folk"]
  kw_suits_all : KwOk K mg "suits_all" ["folk"]
  kw_at_home : KwOk K mg "at_home" ["folk"]
  kw_widened : KwOk K mg "widened" ["folk"]
section
variable {P : Program} {w : World} {K : PySem.W.Frag} {mg : Str → Option Value} {base : Heap} {k : Nat} {cL PL : Addr}
theorem bd_is_within (B : Bn mg) (h : All P w K mg base k) (f : Addr) (cdv : Value) (A : Around) (outer : List PySem.Env) (s : Shared) (H : Hp) (E : XK) (hr : Room k (A.deeper (envOfC "is_within" (defScope s_is_within) s.heap.objs.size f cdv))) : JSs (cxOf CX0 P w K mg base ["thing", "low", "high"] "is_within" (defScope s_is_within) f cdv A outer s H E).nox (defBody s_is_within) (b0 (callK tb k)) := by
  have hu : (A.deeper (envOfC "is_within" (defScope s_is_within) s.heap.objs.size f cdv)).units + 64 < cLine := by have := hr.un; omega
  have m_bool := B.m_bool
  have m_int := B.m_int
  have m_isinstance := B.m_isinstance
  exact (js_one (js_ret (jv_d (jand (jisi .int m_isinstance m_int (jr_d (jvar 0))) (jand (jnot (f := yes) (jisi .bool m_isinstance m_bool (jr_d (jvar 0)))) (jbone (jchLL (jr_d (jvar 1)) (jr_d (jvar 0)) (jr_d (jvar 2)))))))))
theorem bd_is_name (B : Bn mg) (h : All P w K mg base k) (f : Addr) (cdv : Value) (A : Around) (outer : List PySem.Env) (s : Shared) (H : Hp) (E : XK) (hr : Room k (A.deeper (envOfC "is_name" (defScope s_is_name) s.heap.objs.size f cdv))) : JSs (cxOf CX0 P w K mg base ["thing", "sign"] "is_name" (defScope s_is_name) f cdv A outer s H E).nox (defBody s_is_name) (b1 (callK tb k)) := by
  have hu : (A.deeper (envOfC "is_name" (defScope s_is_name) s.heap.objs.size f cdv)).units + 64 < cLine := by have := hr.un; omega
  obtain ⟨t_LETTERS, g_LETTERS⟩ := B.g_LETTERS
  have m_all := B.m_all
  have m_isinstance := B.m_isinstance
  have m_len := B.m_len
  have m_str := B.m_str
  exact (js_one (js_ret (jv_d (jand (jisi .str m_isinstance m_str (jr_d (jvar 0))) (jand (jchLL (jr_d jint) (jr_v (jlen m_len (jr_cons (jr_d (jvar 0)) jr_nil))) (jr_d jint)) (jbone (jd_v (jall m_all (jr_cons (jr_v (jcomp sc_is_name.nd (jc_bor (jr_d (jvar 0))) (blkOk_by (own := [(("sign" : Str), 1)]) (by kernel_rfl)) (fun _ _ _ _ _ => (jg_name 1 sc_is_name.nd)) (fun _ _ _ _ _ => jts_nil) (fun _ _ _ _ _ => (jd_v (jin hu (jr_d (jvar 1)) (jr_d (jgstr g_LETTERS))))))) jr_nil)))))))))
theorem bd_is_one (B : Bn mg) (h : All P w K mg base k) (f : Addr) (cdv : Value) (A : Around) (outer : List PySem.Env) (s : Shared) (H : Hp) (E : XK) (hr : Room k (A.deeper (envOfC "is_one" (defScope s_is_one) s.heap.objs.size f cdv))) : JSs (cxOf CX0 P w K mg base ["thing"] "is_one" (defScope s_is_one) f cdv A outer s H E).nox (defBody s_is_one) (b2 (callK tb k)) := by
  have hu : (A.deeper (envOfC "is_one" (defScope s_is_one) s.heap.objs.size f cdv)).units + 64 < cLine := by have := hr.un; omega
  obtain ⟨t_TOP, g_TOP⟩ := B.g_TOP
  have m_isinstance := B.m_isinstance
  have m_len := B.m_len
  have m_tuple := B.m_tuple
  have h_is_name := h.h_is_name
  have h_is_within := h.h_is_within
  exact (js_cons (jif_s (jtw (jwor (jtnot (tvalD (jisi .tuple m_isinstance m_tuple (jr_d (jvar 0))))) (jwor (tne hu (jr_v (jlen m_len (jr_cons (jr_d (jvar 0)) jr_nil))) (jr_d jint)) (jwor1 (jtnot (tval (jcall h_is_name hr (jvs_cons (jd_v (jix (jr_d (jvar 0)) (jr_d jint))) jvs_nil)))))))) (js_one (js_ret (jv_d jbl))) js_nil) (js_one (js_ret (jv_d (jand (jd_v (jcall h_is_within hr (jvs_cons (jd_v (jix (jr_d (jvar 0)) (jr_d jint))) (jvs_cons jint (jvs_cons (jgint g_TOP) jvs_nil))))) (jand (jd_v (jcall h_is_within hr (jvs_cons (jd_v (jix (jr_d (jvar 0)) (jr_d jint))) (jvs_cons jint (jvs_cons (jgint g_TOP) jvs_nil))))) (jbone (jd_v (jle hu (jr_v (jix (jr_d (jvar 0)) (jr_d jint))) (jr_v (jix (jr_d (jvar 0)) (jr_d jint))))))))))))
theorem bd_are_folk (B : Bn mg) (h : All P w K mg base k) (f : Addr) (cdv : Value) (A : Around) (outer : List PySem.Env) (s : Shared) (H : Hp) (E : XK) (hr : Room k (A.deeper (envOfC "are_folk" (defScope s_are_folk) s.heap.objs.size f cdv))) : JSs (cxOf CX0 P w K mg base ["thing", "one", "names", "two"] "are_folk" (defScope s_are_folk) f cdv A outer s H E).nox (defBody s_are_folk) (b3 (callK tb k)) := by
  have hu : (A.deeper (envOfC "are_folk" (defScope s_are_folk) s.heap.objs.size f cdv)).units + 64 < cLine := by have := hr.un; omega
  obtain ⟨t_MOST_FOLK, g_MOST_FOLK⟩ := B.g_MOST_FOLK
  have m_all := B.m_all
  have m_isinstance := B.m_isinstance
  have m_len := B.m_len
  have m_tuple := B.m_tuple
  have m_zip := B.m_zip
  have h_is_one := h.h_is_one
  exact (js_cons (jif_s (jtw (jwor (jtnot (tvalD (jisi .tuple m_isinstance m_tuple (jr_d (jvar 0))))) (jwor (jtnot (tchLL (jr_d jint) (jr_v (jlen m_len (jr_cons (jr_d (jvar 0)) jr_nil))) (jr_d (jgint g_MOST_FOLK)))) (jwor1 (jtnot (tval (jall m_all (jr_cons (jr_v (jcomp sc_are_folk.nd (jc_bor (jr_d (jvar 0))) (blkOk_by (own := [(("one" : Str), 1)]) (by kernel_rfl)) (fun _ _ _ _ _ => (jg_name 1 sc_are_folk.nd)) (fun _ _ _ _ _ => jts_nil) (fun _ _ _ _ _ => (jd_v (jcall h_is_one hr (jvs_cons (jvar 1) jvs_nil)))))) jr_nil)))))))) (js_one (js_ret (jv_d jbl))) js_nil) (js_cons (js_asgC sc_are_folk.nd (jc_bor (jr_d (jvar 0))) (blkOk_by (own := [(("one" : Str), 1)]) (by kernel_rfl)) (fun _ _ _ _ _ => (jg_name 1 sc_are_folk.nd)) (fun _ _ _ _ _ => jts_nil) (fun _ _ _ _ _ => (jd_v (jix (jr_d (jvar 1)) (jr_d jint))))) (js_one (js_ret (jall m_all (jr_cons (jr_v (jcomp sc_are_folk.nd (jc_zip m_zip (jr_d (jvar 2)) (jr_v (jsl (jr_d (jvar 2)) (jo_some jint) jo_none))) (blkOk_by (own := [(("one" : Str), 1), (("two" : Str), 3)]) (by kernel_rfl)) (fun _ _ _ _ _ => (jg_tup (jgs_cons (jg_name 1 sc_are_folk.nd) (jgs_cons (jg_name 3 sc_are_folk.nd) jgs_nil)))) (fun _ _ _ _ _ => jts_nil) (fun _ _ _ _ _ => (jd_v (jlt hu (jr_d (jvar 1)) (jr_d (jvar 3))))))) jr_nil))))))
theorem bd_suited (B : Bn mg) (h : All P w K mg base k) (f : Addr) (cdv : Value) (A : Around) (outer : List PySem.Env) (s : Shared) (H : Hp) (E : XK) (hr : Room k (A.deeper (envOfC "suited" (defScope s_suited) s.heap.objs.size f cdv))) : JSs (cxOf CX0 P w K mg base ["one", "degree", "name", "low", "high"] "suited" (defScope s_suited) f cdv A outer s H E).nox (defBody s_suited) (b15 (callK tb k)) := by
  have hu : (A.deeper (envOfC "suited" (defScope s_suited) s.heap.objs.size f cdv)).units + 64 < cLine := by have := hr.un; omega
  have m_max := B.m_max
  have m_min := B.m_min
  exact (js_cons (js_unp (jvar 0) (jg_tup (jgs_cons (jg_name 2 sc_suited.nd) (jgs_cons (jg_name 3 sc_suited.nd) (jgs_cons (jg_name 4 sc_suited.nd) jgs_nil))))) (js_one (js_ret (jmin2 m_min (jr_cons (jr_v (jmax2 m_max (jr_cons (jr_d (jvar 1)) (jr_cons (jr_d (jvar 3)) jr_nil)))) (jr_cons (jr_d (jvar 4)) jr_nil))))))
theorem bd_settings (B : Bn mg) (h : All P w K mg base k) (f : Addr) (cdv : Value) (A : Around) (outer : List PySem.Env) (s : Shared) (H : Hp) (E : XK) (hr : Room k (A.deeper (envOfC "settings" (defScope s_settings) s.heap.objs.size f cdv))) : JSs (cxOf CX0 P w K mg base ["folk", "degree", "visits", "by_name", "one", "found", "name"] "settings" (defScope s_settings) f cdv A outer s H E).nox (defBody s_settings) (b16 (callK tb k)) := by
  have hu : (A.deeper (envOfC "settings" (defScope s_settings) s.heap.objs.size f cdv)).units + 64 < cLine := by have := hr.un; omega
  have h_suited := h.h_suited
  exact (js_cons (js_asgDO sc_settings.nd (jc_bor (jr_d (jvar 0))) (blkOk_by (own := [(("one" : Str), 4)]) (by kernel_rfl)) (fun _ _ _ _ _ => (jg_name 4 sc_settings.nd)) (fun _ _ _ _ _ => jts_nil) (fun _ _ _ _ _ => (jd_v (jix (jr_d (jvar 4)) (jr_d jint)))) (fun _ _ _ _ _ => (jvar 4))) (js_cons (js_asgO sc_settings.nd (jlst ja_nil)) (js_cons (js_for (ji_seq (jvar 2)) (jg_name 6 sc_settings.nd) (js_cons (js_asg sc_settings.nd (jcall h_suited hr (jvs_cons (jdget hu (jmb 3) (jvar 6)) (jvs_cons (jvar 1) jvs_nil)))) (js_one (js_mut (i := 5) PySem.F.slot_list_append PySem.F.type_list_append mt_append app_m (ja_cons (jvar 1) ja_nil))))) (js_one js_retO))))
theorem bd_turned (B : Bn mg) (h : All P w K mg base k) (f : Addr) (cdv : Value) (A : Around) (outer : List PySem.Env) (s : Shared) (H : Hp) (E : XK) (hr : Room k (A.deeper (envOfC "turned" (defScope s_turned) s.heap.objs.size f cdv))) : JSs (cxOf CX0 P w K mg base ["folk", "degree", "visits", "rows", "one", "other"] "turned" (defScope s_turned) f cdv A outer s H E).nox (defBody s_turned) (b17 (callK tb k)) := by
  have hu : (A.deeper (envOfC "turned" (defScope s_turned) s.heap.objs.size f cdv)).units + 64 < cLine := by have := hr.un; omega
  have m_abs := B.m_abs
  have m_sum := B.m_sum
  have m_zip := B.m_zip
  have h_settings := h.h_settings
  exact (js_cons (js_asg sc_turned.nd (jadd (jr_v (jlst (ja_cons (jvar 1) ja_nil))) (jr_v (jcall h_settings hr (jvs_cons (jvar 0) (jvs_cons (jvar 1) (jvs_cons (jvar 2) jvs_nil))))))) (js_one (js_ret (jsum m_sum (jr_cons (jr_v (jcomp sc_turned.nd (jc_zip m_zip (jr_d (jvar 3)) (jr_v (jsl (jr_d (jvar 3)) (jo_some jint) jo_none))) (blkOk_by (own := [(("one" : Str), 4), (("other" : Str), 5)]) (by kernel_rfl)) (fun _ _ _ _ _ => (jg_tup (jgs_cons (jg_name 4 sc_turned.nd) (jgs_cons (jg_name 5 sc_turned.nd) jgs_nil)))) (fun _ _ _ _ _ => jts_nil) (fun _ _ _ _ _ => (jd_v (jabs m_abs (jr_cons (jr_v (jsub (jr_d (jvar 4)) (jr_d (jvar 5)))) jr_nil)))))) jr_nil)))))
theorem bd_two_numbers (B : Bn mg) (h : All P w K mg base k) (f : Addr) (cdv : Value) (A : Around) (outer : List PySem.Env) (s : Shared) (H : Hp) (E : XK) (hr : Room k (A.deeper (envOfC "two_numbers" (defScope s_two_numbers) s.heap.objs.size f cdv))) : JSs (cxOf CX0 P w K mg base ["folk", "visits"] "two_numbers" (defScope s_two_numbers) f cdv A outer s H E).nox (defBody s_two_numbers) (b18 (callK tb k)) := by
  have hu : (A.deeper (envOfC "two_numbers" (defScope s_two_numbers) s.heap.objs.size f cdv)).units + 64 < cLine := by have := hr.un; omega
  obtain ⟨t_TOP, g_TOP⟩ := B.g_TOP
  have h_settings := h.h_settings
  exact (js_one (js_ret (jv_d (jtup (ja_cons (jd_v (jix (jr_v (jadd (jr_v (jlst (ja_cons jint ja_nil))) (jr_v (jcall h_settings hr (jvs_cons (jvar 0) (jvs_cons jint (jvs_cons (jvar 1) jvs_nil))))))) (jr_d (jneg jint)))) (ja_cons (jd_v (jix (jr_v (jadd (jr_v (jlst (ja_cons (jgint g_TOP) ja_nil))) (jr_v (jcall h_settings hr (jvs_cons (jvar 0) (jvs_cons (jgint g_TOP) (jvs_cons (jvar 1) jvs_nil))))))) (jr_d (jneg jint)))) ja_nil))))))
theorem bd_first_day (B : Bn mg) (h : All P w K mg base k) (f : Addr) (cdv : Value) (A : Around) (outer : List PySem.Env) (s : Shared) (H : Hp) (E : XK) (hr : Room k (A.deeper (envOfC "first_day" (defScope s_first_day) s.heap.objs.size f cdv))) : JSs (cxOf CX0 P w K mg base ["folk", "degree", "order"] "first_day" (defScope s_first_day) f cdv A outer s H E).nox (defBody s_first_day) (b26 (callK tb k)) := by
  have hu : (A.deeper (envOfC "first_day" (defScope s_first_day) s.heap.objs.size f cdv)).units + 64 < cLine := by have := hr.un; omega
  have h_settings := h.h_settings
  exact (js_one (js_ret (jix (jr_v (jcall h_settings hr (jvs_cons (jvar 0) (jvs_cons (jvar 1) (jvs_cons (jvar 2) jvs_nil))))) (jr_d (jneg jint)))))
theorem bd_far_setting (B : Bn mg) (h : All P w K mg base k) (f : Addr) (cdv : Value) (A : Around) (outer : List PySem.Env) (s : Shared) (H : Hp) (E : XK) (hr : Room k (A.deeper (envOfC "far_setting" (defScope s_far_setting) s.heap.objs.size f cdv))) : JSs (cxOf CX0 P w K mg base ["folk", "degree", "order", "days"] "far_setting" (defScope s_far_setting) f cdv A outer s H E).nox (defBody s_far_setting) (b27 (callK tb k)) := by
  have hu : (A.deeper (envOfC "far_setting" (defScope s_far_setting) s.heap.objs.size f cdv)).units + 64 < cLine := by have := hr.un; omega
  have h_first_day := h.h_first_day
  exact (js_one (js_ret (jvif (tgt hu (jr_d (jvar 3)) (jr_d jint)) (jcall h_first_day hr (jvs_cons (jvar 0) (jvs_cons (jvar 1) (jvs_cons (jvar 2) jvs_nil)))) (jv_d (jvar 1)))))
theorem bd_each_day (B : Bn mg) (h : All P w K mg base k) (f : Addr) (cdv : Value) (A : Around) (outer : List PySem.Env) (s : Shared) (H : Hp) (E : XK) (hr : Room k (A.deeper (envOfC "each_day" (defScope s_each_day) s.heap.objs.size f cdv))) : JSs (cxOf CX0 P w K mg base ["folk", "order"] "each_day" (defScope s_each_day) f cdv A outer s H E).nox (defBody s_each_day) (b28 (callK tb k)) := by
  have hu : (A.deeper (envOfC "each_day" (defScope s_each_day) s.heap.objs.size f cdv)).units + 64 < cLine := by have := hr.un; omega
  have h_first_day := h.h_first_day
  have h_turned := h.h_turned
  exact (js_one (js_ret (jcall h_turned hr (jvs_cons (jvar 0) (jvs_cons (jd_v (jcall h_first_day hr (jvs_cons (jvar 0) (jvs_cons jint (jvs_cons (jvar 1) jvs_nil))))) (jvs_cons (jvar 1) jvs_nil))))))
theorem bd_far_turned (B : Bn mg) (h : All P w K mg base k) (f : Addr) (cdv : Value) (A : Around) (outer : List PySem.Env) (s : Shared) (H : Hp) (E : XK) (hr : Room k (A.deeper (envOfC "far_turned" (defScope s_far_turned) s.heap.objs.size f cdv))) : JSs (cxOf CX0 P w K mg base ["folk", "degree", "order", "days"] "far_turned" (defScope s_far_turned) f cdv A outer s H E).nox (defBody s_far_turned) (b29 (callK tb k)) := by
  have hu : (A.deeper (envOfC "far_turned" (defScope s_far_turned) s.heap.objs.size f cdv)).units + 64 < cLine := by have := hr.un; omega
  have h_each_day := h.h_each_day
  have h_turned := h.h_turned
  exact (js_cons (jif_s (teq hu (jr_d (jvar 3)) (jr_d jint)) (js_one (js_ret (jv_d jint))) js_nil) (js_one (js_ret (jadd (jr_v (jcall h_turned hr (jvs_cons (jvar 0) (jvs_cons (jvar 1) (jvs_cons (jvar 2) jvs_nil))))) (jr_v (jmul (jr_v (jsub (jr_d (jvar 3)) (jr_d jint))) (jr_v (jcall h_each_day hr (jvs_cons (jvar 0) (jvs_cons (jvar 2) jvs_nil))))))))))
theorem bd_moves (B : Bn mg) (h : All P w K mg base k) (f : Addr) (cdv : Value) (A : Around) (outer : List PySem.Env) (s : Shared) (H : Hp) (E : XK) (hr : Room k (A.deeper (envOfC "moves" (defScope s_moves) s.heap.objs.size f cdv))) : JSs (cxOf CX0 P w K mg base ["folk", "order", "here", "found", "name", "there"] "moves" (defScope s_moves) f cdv A outer s H E).nox (defBody s_moves) (b35 (callK tb k)) := by
  have hu : (A.deeper (envOfC "moves" (defScope s_moves) s.heap.objs.size f cdv)).units + 64 < cLine := by have := hr.un; omega
  have m_zip := B.m_zip
  have h_first_day := h.h_first_day
  have h_settings := h.h_settings
  exact (js_cons (js_asg sc_moves.nd (jcall h_first_day hr (jvs_cons (jvar 0) (jvs_cons jint (jvs_cons (jvar 1) jvs_nil))))) (js_cons (js_asgO sc_moves.nd (jlst ja_nil)) (js_cons (js_for (ji_zip m_zip (jvar 1) (jd_v (jcall h_settings hr (jvs_cons (jvar 0) (jvs_cons (jvar 2) (jvs_cons (jvar 1) jvs_nil)))))) (jg_tup (jgs_cons (jg_name 4 sc_moves.nd) (jgs_cons (jg_name 5 sc_moves.nd) jgs_nil))) (js_cons (js_mut (i := 3) PySem.F.slot_list_append PySem.F.type_list_append mt_append app_m (ja_cons (jtup (ja_cons (jvar 4) (ja_cons (jvar 2) (ja_cons (jvar 5) ja_nil)))) ja_nil)) (js_one (js_asg sc_moves.nd (jv_d (jvar 5)))))) (js_one js_retO))))
theorem bd_crossed (B : Bn mg) (h : All P w K mg base k) (f : Addr) (cdv : Value) (A : Around) (outer : List PySem.Env) (s : Shared) (H : Hp) (E : XK) (hr : Room k (A.deeper (envOfC "crossed" (defScope s_crossed) s.heap.objs.size f cdv))) : JSs (cxOf CX0 P w K mg base ["folk", "order", "rows", "found", "step", "name", "one", "other"] "crossed" (defScope s_crossed) f cdv A outer s H E).nox (defBody s_crossed) (b36 (callK tb k)) := by
  have hu : (A.deeper (envOfC "crossed" (defScope s_crossed) s.heap.objs.size f cdv)).units + 64 < cLine := by have := hr.un; omega
  obtain ⟨t_TOP, g_TOP⟩ := B.g_TOP
  have m_len := B.m_len
  have m_max := B.m_max
  have m_min := B.m_min
  have m_range := B.m_range
  have h_moves := h.h_moves
  exact (js_cons (js_asg sc_crossed.nd (jcall h_moves hr (jvs_cons (jvar 0) (jvs_cons (jvar 1) jvs_nil)))) (js_cons (js_asgO sc_crossed.nd (jlst ja_nil)) (js_cons (js_for (ji_range1 m_range (jr_cons (jr_d (jgint g_TOP)) jr_nil)) (jg_name 4 sc_crossed.nd) (js_one (js_mut (i := 3) PySem.F.slot_list_append PySem.F.type_list_append mt_append app_m (ja_cons (jd_v (jlen m_len (jr_cons (jr_v (jcomp sc_crossed.nd (jc_bor (jr_d (jvar 2))) (blkOk_by (own := [(("name" : Str), 5), (("one" : Str), 6), (("other" : Str), 7)]) (by kernel_rfl)) (fun _ _ _ _ _ => (jg_tup (jgs_cons (jg_name 5 sc_crossed.nd) (jgs_cons (jg_name 6 sc_crossed.nd) (jgs_cons (jg_name 7 sc_crossed.nd) jgs_nil))))) (fun _ _ _ _ _ => (jts_one (tchLl hu (jr_v (jmin2 m_min (jr_cons (jr_d (jvar 6)) (jr_cons (jr_d (jvar 7)) jr_nil)))) (jr_d (jvar 4)) (jr_v (jmax2 m_max (jr_cons (jr_d (jvar 6)) (jr_cons (jr_d (jvar 7)) jr_nil))))))) (fun _ _ _ _ _ => jint))) jr_nil))) ja_nil)))) (js_one js_retO))))
theorem bd_shares (B : Bn mg) (h : All P w K mg base k) (f : Addr) (cdv : Value) (A : Around) (outer : List PySem.Env) (s : Shared) (H : Hp) (E : XK) (hr : Room k (A.deeper (envOfC "shares" (defScope s_shares) s.heap.objs.size f cdv))) : JSs (cxOf CX0 P w K mg base ["folk", "order", "name", "one", "other"] "shares" (defScope s_shares) f cdv A outer s H E).nox (defBody s_shares) (b37 (callK tb k)) := by
  have hu : (A.deeper (envOfC "shares" (defScope s_shares) s.heap.objs.size f cdv)).units + 64 < cLine := by have := hr.un; omega
  have m_abs := B.m_abs
  have m_sorted := B.m_sorted
  have h_moves := h.h_moves
  exact (js_one (js_ret (jsorted m_sorted hu (jr_cons (jr_v (jcomp sc_shares.nd (jc_bor (jr_v (jcall h_moves hr (jvs_cons (jvar 0) (jvs_cons (jvar 1) jvs_nil))))) (blkOk_by (own := [(("name" : Str), 2), (("one" : Str), 3), (("other" : Str), 4)]) (by kernel_rfl)) (fun _ _ _ _ _ => (jg_tup (jgs_cons (jg_name 2 sc_shares.nd) (jgs_cons (jg_name 3 sc_shares.nd) (jgs_cons (jg_name 4 sc_shares.nd) jgs_nil))))) (fun _ _ _ _ _ => jts_nil) (fun _ _ _ _ _ => (jtup (ja_cons (jvar 2) (ja_cons (jd_v (jabs m_abs (jr_cons (jr_v (jsub (jr_d (jvar 3)) (jr_d (jvar 4)))) jr_nil))) ja_nil)))))) jr_nil))))
theorem bd_names_of (B : Bn mg) (h : All P w K mg base k) (f : Addr) (cdv : Value) (A : Around) (outer : List PySem.Env) (s : Shared) (H : Hp) (E : XK) (hr : Room k (A.deeper (envOfC "names_of" (defScope s_names_of) s.heap.objs.size f cdv))) : JSs (cxOf CX0 P w K mg base ["folk", "one"] "names_of" (defScope s_names_of) f cdv A outer s H E).nox (defBody s_names_of) (b46 (callK tb k)) := by
  have hu : (A.deeper (envOfC "names_of" (defScope s_names_of) s.heap.objs.size f cdv)).units + 64 < cLine := by have := hr.un; omega
  exact (js_one (js_ret (jcomp sc_names_of.nd (jc_bor (jr_d (jvar 0))) (blkOk_by (own := [(("one" : Str), 1)]) (by kernel_rfl)) (fun _ _ _ _ _ => (jg_name 1 sc_names_of.nd)) (fun _ _ _ _ _ => jts_nil) (fun _ _ _ _ _ => (jd_v (jix (jr_d (jvar 1)) (jr_d jint)))))))
theorem bd_greatest_low (B : Bn mg) (h : All P w K mg base k) (f : Addr) (cdv : Value) (A : Around) (outer : List PySem.Env) (s : Shared) (H : Hp) (E : XK) (hr : Room k (A.deeper (envOfC "greatest_low" (defScope s_greatest_low) s.heap.objs.size f cdv))) : JSs (cxOf CX0 P w K mg base ["folk", "name", "low", "high"] "greatest_low" (defScope s_greatest_low) f cdv A outer s H E).nox (defBody s_greatest_low) (b47 (callK tb k)) := by
  have hu : (A.deeper (envOfC "greatest_low" (defScope s_greatest_low) s.heap.objs.size f cdv)).units + 64 < cLine := by have := hr.un; omega
  have m_max := B.m_max
  exact (js_one (js_ret (jmaxL m_max hu (jr_cons (jr_v (jcomp sc_greatest_low.nd (jc_bor (jr_d (jvar 0))) (blkOk_by (own := [(("name" : Str), 1), (("low" : Str), 2), (("high" : Str), 3)]) (by kernel_rfl)) (fun _ _ _ _ _ => (jg_tup (jgs_cons (jg_name 1 sc_greatest_low.nd) (jgs_cons (jg_name 2 sc_greatest_low.nd) (jgs_cons (jg_name 3 sc_greatest_low.nd) jgs_nil))))) (fun _ _ _ _ _ => jts_nil) (fun _ _ _ _ _ => (jvar 2)))) jr_nil))))
theorem bd_least_high (B : Bn mg) (h : All P w K mg base k) (f : Addr) (cdv : Value) (A : Around) (outer : List PySem.Env) (s : Shared) (H : Hp) (E : XK) (hr : Room k (A.deeper (envOfC "least_high" (defScope s_least_high) s.heap.objs.size f cdv))) : JSs (cxOf CX0 P w K mg base ["folk", "name", "low", "high"] "least_high" (defScope s_least_high) f cdv A outer s H E).nox (defBody s_least_high) (b48 (callK tb k)) := by
  have hu : (A.deeper (envOfC "least_high" (defScope s_least_high) s.heap.objs.size f cdv)).units + 64 < cLine := by have := hr.un; omega
  have m_min := B.m_min
  exact (js_one (js_ret (jminL m_min hu (jr_cons (jr_v (jcomp sc_least_high.nd (jc_bor (jr_d (jvar 0))) (blkOk_by (own := [(("name" : Str), 1), (("low" : Str), 2), (("high" : Str), 3)]) (by kernel_rfl)) (fun _ _ _ _ _ => (jg_tup (jgs_cons (jg_name 1 sc_least_high.nd) (jgs_cons (jg_name 2 sc_least_high.nd) (jgs_cons (jg_name 3 sc_least_high.nd) jgs_nil))))) (fun _ _ _ _ _ => jts_nil) (fun _ _ _ _ _ => (jvar 3)))) jr_nil))))
theorem bd_lesser_side (B : Bn mg) (h : All P w K mg base k) (f : Addr) (cdv : Value) (A : Around) (outer : List PySem.Env) (s : Shared) (H : Hp) (E : XK) (hr : Room k (A.deeper (envOfC "lesser_side" (defScope s_lesser_side) s.heap.objs.size f cdv))) : JSs (cxOf CX0 P w K mg base ["folk", "step", "below", "name", "low", "high", "above"] "lesser_side" (defScope s_lesser_side) f cdv A outer s H E).nox (defBody s_lesser_side) (b39 (callK tb k)) := by
  have hu : (A.deeper (envOfC "lesser_side" (defScope s_lesser_side) s.heap.objs.size f cdv)).units + 64 < cLine := by have := hr.un; omega
  have m_len := B.m_len
  have m_min := B.m_min
  exact (js_cons (js_asg sc_lesser_side.nd (jlen m_len (jr_cons (jr_v (jcomp sc_lesser_side.nd (jc_bor (jr_d (jvar 0))) (blkOk_by (own := [(("name" : Str), 3), (("low" : Str), 4), (("high" : Str), 5)]) (by kernel_rfl)) (fun _ _ _ _ _ => (jg_tup (jgs_cons (jg_name 3 sc_lesser_side.nd) (jgs_cons (jg_name 4 sc_lesser_side.nd) (jgs_cons (jg_name 5 sc_lesser_side.nd) jgs_nil))))) (fun _ _ _ _ _ => (jts_one (tle hu (jr_d (jvar 5)) (jr_d (jvar 1))))) (fun _ _ _ _ _ => jint))) jr_nil))) (js_cons (js_asg sc_lesser_side.nd (jlen m_len (jr_cons (jr_v (jcomp sc_lesser_side.nd (jc_bor (jr_d (jvar 0))) (blkOk_by (own := [(("name" : Str), 3), (("low" : Str), 4), (("high" : Str), 5)]) (by kernel_rfl)) (fun _ _ _ _ _ => (jg_tup (jgs_cons (jg_name 3 sc_lesser_side.nd) (jgs_cons (jg_name 4 sc_lesser_side.nd) (jgs_cons (jg_name 5 sc_lesser_side.nd) jgs_nil))))) (fun _ _ _ _ _ => (jts_one (tgt hu (jr_d (jvar 4)) (jr_d (jvar 1))))) (fun _ _ _ _ _ => jint))) jr_nil))) (js_one (js_ret (jmin2 m_min (jr_cons (jr_d (jvar 2)) (jr_cons (jr_d (jvar 6)) jr_nil)))))))
theorem bd_most_crossed (B : Bn mg) (h : All P w K mg base k) (f : Addr) (cdv : Value) (A : Around) (outer : List PySem.Env) (s : Shared) (H : Hp) (E : XK) (hr : Room k (A.deeper (envOfC "most_crossed" (defScope s_most_crossed) s.heap.objs.size f cdv))) : JSs (cxOf CX0 P w K mg base ["folk", "step"] "most_crossed" (defScope s_most_crossed) f cdv A outer s H E).nox (defBody s_most_crossed) (b40 (callK tb k)) := by
  have hu : (A.deeper (envOfC "most_crossed" (defScope s_most_crossed) s.heap.objs.size f cdv)).units + 64 < cLine := by have := hr.un; omega
  obtain ⟨t_TOP, g_TOP⟩ := B.g_TOP
  have m_range := B.m_range
  have h_lesser_side := h.h_lesser_side
  exact (js_one (js_ret (jcomp sc_most_crossed.nd (jc_i (ji_range1 m_range (jr_cons (jr_d (jgint g_TOP)) jr_nil))) (blkOk_by (own := [(("step" : Str), 1)]) (by kernel_rfl)) (fun _ _ _ _ _ => (jg_name 1 sc_most_crossed.nd)) (fun _ _ _ _ _ => jts_nil) (fun _ _ _ _ _ => (jd_v (jmul (jr_d jint) (jr_v (jcall h_lesser_side hr (jvs_cons (jvar 0) (jvs_cons (jvar 1) jvs_nil))))))))))
theorem bd_most (B : Bn mg) (h : All P w K mg base k) (f : Addr) (cdv : Value) (A : Around) (outer : List PySem.Env) (s : Shared) (H : Hp) (E : XK) (hr : Room k (A.deeper (envOfC "most" (defScope s_most) s.heap.objs.size f cdv))) : JSs (cxOf CX0 P w K mg base ["folk"] "most" (defScope s_most) f cdv A outer s H E).nox (defBody s_most) (b41 (callK tb k)) := by
  have hu : (A.deeper (envOfC "most" (defScope s_most) s.heap.objs.size f cdv)).units + 64 < cLine := by have := hr.un; omega
  have m_sum := B.m_sum
  have h_most_crossed := h.h_most_crossed
  exact (js_one (js_ret (jsum m_sum (jr_cons (jr_v (jcall h_most_crossed hr (jvs_cons (jvar 0) jvs_nil))) jr_nil))))
theorem bd_least (B : Bn mg) (h : All P w K mg base k) (f : Addr) (cdv : Value) (A : Around) (outer : List PySem.Env) (s : Shared) (H : Hp) (E : XK) (hr : Room k (A.deeper (envOfC "least" (defScope s_least) s.heap.objs.size f cdv))) : JSs (cxOf CX0 P w K mg base ["folk"] "least" (defScope s_least) f cdv A outer s H E).nox (defBody s_least) (b49 (callK tb k)) := by
  have hu : (A.deeper (envOfC "least" (defScope s_least) s.heap.objs.size f cdv)).units + 64 < cLine := by have := hr.un; omega
  have m_max := B.m_max
  have h_greatest_low := h.h_greatest_low
  have h_least_high := h.h_least_high
  exact (js_one (js_ret (jmul (jr_d jint) (jr_v (jmax2 m_max (jr_cons (jr_d jint) (jr_cons (jr_v (jsub (jr_v (jcall h_greatest_low hr (jvs_cons (jvar 0) jvs_nil))) (jr_v (jcall h_least_high hr (jvs_cons (jvar 0) jvs_nil))))) jr_nil)))))))
theorem bd_most_order (B : Bn mg) (h : All P w K mg base k) (lc : Lam1 base mg cL PL (("most_order" : Str) ++ ".<locals>." ++ "<lambda>")) (f : Addr) (A : Around) (outer : List PySem.Env) (s : Shared) (H : Hp) (E : XK) (hr : Room k (A.deeper (envOfC "most_order" (defScope s_most_order) s.heap.objs.size f (.ref cL)))) : JSs (cxOf CX0 P w K mg base ["folk", "many", "step", "by_high", "by_low", "lows", "highs", "rest", "name", "low", "high", "found", "one", "other"] "most_order" (defScope s_most_order) f (.ref cL) A outer s H E).nox (defBody s_most_order) (b42 (callK tb k)) := by
  have hu : (A.deeper (envOfC "most_order" (defScope s_most_order) s.heap.objs.size f (.ref cL))).units + 64 < cLine := by have := hr.un; omega
  obtain ⟨t_TOP, g_TOP⟩ := B.g_TOP
  have m_max := B.m_max
  have m_range := B.m_range
  have m_sorted := B.m_sorted
  have m_tuple := B.m_tuple
  have m_zip := B.m_zip
  have h_lesser_side := h.h_lesser_side
  exact (js_cons (js_asg sc_most_order.nd (jmaxL m_max hu (jr_cons (jr_v (jcomp sc_most_order.nd (jc_i (ji_range1 m_range (jr_cons (jr_d (jgint g_TOP)) jr_nil))) (blkOk_by (own := [(("step" : Str), 2)]) (by kernel_rfl)) (fun _ _ _ _ _ => (jg_name 2 sc_most_order.nd)) (fun _ _ _ _ _ => jts_nil) (fun _ _ _ _ _ => (jd_v (jcall h_lesser_side hr (jvs_cons (jvar 0) (jvs_cons (jvar 2) jvs_nil))))))) jr_nil))) (js_cons (js_asg sc_most_order.nd (jsortK m_sorted hu hr lc lam_hi (jr_d (jvar 0)))) (js_cons (js_asg sc_most_order.nd (jsortK m_sorted hu hr lc lam_lo (jr_d (jvar 0)))) (js_cons (js_parT (jw_cons (jd_v (jsl (jr_d (jvar 3)) jo_none (jo_some (jvar 1)))) (jw_cons (jd_v (jsl (jr_d (jvar 4)) jo_none (jo_some (jvar 1)))) jw_nil)) (ga_cons sc_most_order.nd (ga_cons sc_most_order.nd ga_nil))) (js_cons (js_asg sc_most_order.nd (jsorted m_sorted hu (jr_cons (jr_v (jcomp sc_most_order.nd (jc_bor (jr_d (jvar 0))) (blkOk_by (own := [(("name" : Str), 8), (("low" : Str), 9), (("high" : Str), 10)]) (by kernel_rfl)) (fun _ _ _ _ _ => (jg_tup (jgs_cons (jg_name 8 sc_most_order.nd) (jgs_cons (jg_name 9 sc_most_order.nd) (jgs_cons (jg_name 10 sc_most_order.nd) jgs_nil))))) (fun _ _ _ _ _ => (jts_one (tni hu (jr_d (jtup (ja_cons (jvar 8) (ja_cons (jvar 9) (ja_cons (jvar 10) ja_nil))))) (jr_v (jadd (jr_d (jvar 5)) (jr_d (jvar 6))))))) (fun _ _ _ _ _ => (jtup (ja_cons (jvar 9) (ja_cons (jvar 8) ja_nil)))))) jr_nil))) (js_cons (js_asgO sc_most_order.nd (jadd (jr_v (jadd (jr_v (jcomp sc_most_order.nd (jc_bor (jr_v (jsl (jr_d (jvar 5)) jo_none (jo_some jint)))) (blkOk_by (own := [(("one" : Str), 12)]) (by kernel_rfl)) (fun _ _ _ _ _ => (jg_name 12 sc_most_order.nd)) (fun _ _ _ _ _ => jts_nil) (fun _ _ _ _ _ => (jd_v (jix (jr_d (jvar 12)) (jr_d jint)))))) (jr_v (jcomp sc_most_order.nd (jc_bor (jr_d (jvar 7))) (blkOk_by (own := [(("low" : Str), 9), (("name" : Str), 8)]) (by kernel_rfl)) (fun _ _ _ _ _ => (jg_tup (jgs_cons (jg_name 9 sc_most_order.nd) (jgs_cons (jg_name 8 sc_most_order.nd) jgs_nil)))) (fun _ _ _ _ _ => jts_nil) (fun _ _ _ _ _ => (jvar 8)))))) (jr_v (jcomp sc_most_order.nd (jc_bor (jr_v (jsl (jr_d (jvar 6)) jo_none (jo_some jint)))) (blkOk_by (own := [(("one" : Str), 12)]) (by kernel_rfl)) (fun _ _ _ _ _ => (jg_name 12 sc_most_order.nd)) (fun _ _ _ _ _ => jts_nil) (fun _ _ _ _ _ => (jd_v (jix (jr_d (jvar 12)) (jr_d jint)))))))) (js_cons (js_for (ji_zip m_zip (jd_v (jsl (jr_d (jvar 5)) (jo_some jint) jo_none)) (jd_v (jsl (jr_d (jvar 6)) (jo_some jint) jo_none))) (jg_tup (jgs_cons (jg_name 12 sc_most_order.nd) (jgs_cons (jg_name 13 sc_most_order.nd) jgs_nil))) (js_one (js_mut (i := 11) PySem.F.slot_list_extend PySem.F.type_list_extend mt_extend ext_m (ja_cons (jd_v (jlst (ja_cons (jd_v (jix (jr_d (jvar 12)) (jr_d jint))) (ja_cons (jd_v (jix (jr_d (jvar 13)) (jr_d jint))) ja_nil)))) ja_nil)))) (js_one (js_ret (jtuple m_tuple (jr_cons (jbor 11) jr_nil)))))))))))
theorem bd_least_order (B : Bn mg) (h : All P w K mg base k) (f : Addr) (cdv : Value) (A : Around) (outer : List PySem.Env) (s : Shared) (H : Hp) (E : XK) (hr : Room k (A.deeper (envOfC "least_order" (defScope s_least_order) s.heap.objs.size f cdv))) : JSs (cxOf CX0 P w K mg base ["folk", "high", "name", "low"] "least_order" (defScope s_least_order) f cdv A outer s H E).nox (defBody s_least_order) (b50 (callK tb k)) := by
  have hu : (A.deeper (envOfC "least_order" (defScope s_least_order) s.heap.objs.size f cdv)).units + 64 < cLine := by have := hr.un; omega
  have m_sorted := B.m_sorted
  have m_tuple := B.m_tuple
  exact (js_one (js_ret (jtuple m_tuple (jr_cons (jr_v (jcomp sc_least_order.nd (jc_bor (jr_v (jsorted m_sorted hu (jr_cons (jr_v (jcomp sc_least_order.nd (jc_bor (jr_d (jvar 0))) (blkOk_by (own := [(("name" : Str), 2), (("low" : Str), 3), (("high" : Str), 1)]) (by kernel_rfl)) (fun _ _ _ _ _ => (jg_tup (jgs_cons (jg_name 2 sc_least_order.nd) (jgs_cons (jg_name 3 sc_least_order.nd) (jgs_cons (jg_name 1 sc_least_order.nd) jgs_nil))))) (fun _ _ _ _ _ => jts_nil) (fun _ _ _ _ _ => (jtup (ja_cons (jneg (jvar 1)) (ja_cons (jvar 2) ja_nil)))))) jr_nil)))) (blkOk_by (own := [(("high" : Str), 1), (("name" : Str), 2)]) (by kernel_rfl)) (fun _ _ _ _ _ => (jg_tup (jgs_cons (jg_name 1 sc_least_order.nd) (jgs_cons (jg_name 2 sc_least_order.nd) jgs_nil)))) (fun _ _ _ _ _ => jts_nil) (fun _ _ _ _ _ => (jvar 2)))) jr_nil))))
theorem bd_orders (B : Bn mg) (h : All P w K mg base k) (f : Addr) (cdv : Value) (A : Around) (outer : List PySem.Env) (s : Shared) (H : Hp) (E : XK) (hr : Room k (A.deeper (envOfC "orders" (defScope s_orders) s.heap.objs.size f cdv))) : JSs (cxOf CX0 P w K mg base ["names", "found", "name", "row", "at"] "orders" (defScope s_orders) f cdv A outer s H E).nox (defBody s_orders) (b51 (callK tb k)) := by
  have hu : (A.deeper (envOfC "orders" (defScope s_orders) s.heap.objs.size f cdv)).units + 64 < cLine := by have := hr.un; omega
  have m_len := B.m_len
  have m_range := B.m_range
  exact (js_cons (js_asg sc_orders.nd (jlst (ja_cons (jd_v (jsl (jr_d (jvar 0)) jo_none (jo_some jint))) ja_nil))) (js_cons (js_for (ji_seq (jd_v (jsl (jr_d (jvar 0)) (jo_some jint) jo_none))) (jg_name 2 sc_orders.nd) (js_one (js_asgC2 (vs1 := [4]) sc_orders.nd (jc_bor (jr_d (jvar 1))) (blkOk_by (own := [(("row" : Str), 3), (("at" : Str), 4)]) (by kernel_rfl)) (by decide) (fun _ _ _ _ _ => (jg_name 3 sc_orders.nd)) (fun _ _ _ _ _ => jts_nil) (fun _ _ _ _ _ => (ji_range2 m_range (jr_cons (jr_d jint) (jr_cons (jr_v (jadd (jr_v (jlen m_len (jr_cons (jr_d (jvar 3)) jr_nil))) (jr_d jint))) jr_nil)))) (fun _ _ _ _ _ => (jg_name 4 sc_orders.nd)) (fun _ _ _ _ _ => jts_nil) (fun _ _ _ _ _ => (jd_v (jadd (jr_v (jadd (jr_v (jsl (jr_d (jvar 3)) jo_none (jo_some (jvar 4)))) (jr_v (jlst (ja_cons (jvar 2) ja_nil))))) (jr_v (jsl (jr_d (jvar 3)) (jo_some (jvar 4)) jo_none)))))))) (js_one (js_ret (jv_d (jvar 1))))))
theorem bd_amounts (B : Bn mg) (h : All P w K mg base k) (f : Addr) (cdv : Value) (A : Around) (outer : List PySem.Env) (s : Shared) (H : Hp) (E : XK) (hr : Room k (A.deeper (envOfC "amounts" (defScope s_amounts) s.heap.objs.size f cdv))) : JSs (cxOf CX0 P w K mg base ["folk", "order"] "amounts" (defScope s_amounts) f cdv A outer s H E).nox (defBody s_amounts) (b52 (callK tb k)) := by
  have hu : (A.deeper (envOfC "amounts" (defScope s_amounts) s.heap.objs.size f cdv)).units + 64 < cLine := by have := hr.un; omega
  have m_sorted := B.m_sorted
  have m_tuple := B.m_tuple
  have h_each_day := h.h_each_day
  have h_names_of := h.h_names_of
  have h_orders := h.h_orders
  exact (js_one (js_ret (jsortedM m_sorted hu (jm_v (jdc sc_amounts.nd (jc_bor (jr_v (jcall h_orders hr (jvs_cons (jd_v (jcall h_names_of hr (jvs_cons (jvar 0) jvs_nil))) jvs_nil)))) (blkOk_by (own := [(("order" : Str), 1)]) (by kernel_rfl)) (fun _ _ _ _ _ => (jg_name 1 sc_amounts.nd)) (fun _ _ _ _ _ => jts_nil) (fun _ _ _ _ _ => (jd_v (jcall h_each_day hr (jvs_cons (jvar 0) (jvs_cons (jd_v (jtuple m_tuple (jr_cons (jr_d (jvar 1)) jr_nil))) jvs_nil))))) (fun _ _ _ _ _ => jbl))))))
theorem bd_most_by (B : Bn mg) (h : All P w K mg base k) (f : Addr) (cdv : Value) (A : Around) (outer : List PySem.Env) (s : Shared) (H : Hp) (E : XK) (hr : Room k (A.deeper (envOfC "most_by" (defScope s_most_by) s.heap.objs.size f cdv))) : JSs (cxOf CX0 P w K mg base ["folk", "name", "one", "row", "others"] "most_by" (defScope s_most_by) f cdv A outer s H E).nox (defBody s_most_by) (b54 (callK tb k)) := by
  have hu : (A.deeper (envOfC "most_by" (defScope s_most_by) s.heap.objs.size f cdv)).units + 64 < cLine := by have := hr.un; omega
  have m_max := B.m_max
  have h_greatest_low := h.h_greatest_low
  have h_least_high := h.h_least_high
  exact (js_cons (js_asg sc_most_by.nd (jix (jr_v (jcomp sc_most_by.nd (jc_bor (jr_d (jvar 0))) (blkOk_by (own := [(("row" : Str), 3)]) (by kernel_rfl)) (fun _ _ _ _ _ => (jg_name 3 sc_most_by.nd)) (fun _ _ _ _ _ => (jts_one (teq hu (jr_v (jix (jr_d (jvar 3)) (jr_d jint))) (jr_d (jvar 1))))) (fun _ _ _ _ _ => (jvar 3)))) (jr_d jint))) (js_cons (js_asgC sc_most_by.nd (jc_bor (jr_d (jvar 0))) (blkOk_by (own := [(("row" : Str), 3)]) (by kernel_rfl)) (fun _ _ _ _ _ => (jg_name 3 sc_most_by.nd)) (fun _ _ _ _ _ => (jts_one (tne hu (jr_v (jix (jr_d (jvar 3)) (jr_d jint))) (jr_d (jvar 1))))) (fun _ _ _ _ _ => (jvar 3))) (js_cons (jif_s (teq hu (jr_d (jvar 4)) (jr_v (jlst ja_nil))) (js_one (js_ret (jv_d jint))) js_nil) (js_one (js_ret (jmax3 m_max (jr_cons (jr_d jint) (jr_cons (jr_v (jsub (jr_v (jix (jr_d (jvar 2)) (jr_d jint))) (jr_v (jcall h_least_high hr (jvs_cons (jvar 4) jvs_nil))))) (jr_cons (jr_v (jsub (jr_v (jcall h_greatest_low hr (jvs_cons (jvar 4) jvs_nil))) (jr_v (jix (jr_d (jvar 2)) (jr_d jint))))) jr_nil)))))))))
theorem bd_onlookers (B : Bn mg) (h : All P w K mg base k) (f : Addr) (cdv : Value) (A : Around) (outer : List PySem.Env) (s : Shared) (H : Hp) (E : XK) (hr : Room k (A.deeper (envOfC "onlookers" (defScope s_onlookers) s.heap.objs.size f cdv))) : JSs (cxOf CX0 P w K mg base ["folk", "name"] "onlookers" (defScope s_onlookers) f cdv A outer s H E).nox (defBody s_onlookers) (b55 (callK tb k)) := by
  have hu : (A.deeper (envOfC "onlookers" (defScope s_onlookers) s.heap.objs.size f cdv)).units + 64 < cLine := by have := hr.un; omega
  have m_tuple := B.m_tuple
  have h_most_by := h.h_most_by
  have h_names_of := h.h_names_of
  exact (js_one (js_ret (jtuple m_tuple (jr_cons (jr_v (jcomp sc_onlookers.nd (jc_bor (jr_v (jcall h_names_of hr (jvs_cons (jvar 0) jvs_nil)))) (blkOk_by (own := [(("name" : Str), 1)]) (by kernel_rfl)) (fun _ _ _ _ _ => (jg_name 1 sc_onlookers.nd)) (fun _ _ _ _ _ => (jts_one (teq hu (jr_v (jcall h_most_by hr (jvs_cons (jvar 0) (jvs_cons (jvar 1) jvs_nil)))) (jr_d jint)))) (fun _ _ _ _ _ => (jvar 1)))) jr_nil))))
theorem bd_known (B : Bn mg) (h : All P w K mg base k) (f : Addr) (cdv : Value) (A : Around) (outer : List PySem.Env) (s : Shared) (H : Hp) (E : XK) (hr : Room k (A.deeper (envOfC "known" (defScope s_known) s.heap.objs.size f cdv))) : JSs (cxOf CX0 P w K mg base ["folk", "names", "visits", "name", "one", "other", "least", "greatest"] "known" (defScope s_known) f cdv A outer s H E).nox (defBody s_known) (b57 (callK tb k)) := by
  have hu : (A.deeper (envOfC "known" (defScope s_known) s.heap.objs.size f cdv)).units + 64 < cLine := by have := hr.un; omega
  have h_names_of := h.h_names_of
  have h_two_numbers := h.h_two_numbers
  exact (js_cons (js_asg sc_known.nd (jcall h_names_of hr (jvs_cons (jvar 0) jvs_nil))) (js_cons (js_for (ji_seq (jd_v (jadd (jr_v (jcomp sc_known.nd (jc_bor (jr_d (jvar 1))) (blkOk_by (own := [(("name" : Str), 3)]) (by kernel_rfl)) (fun _ _ _ _ _ => (jg_name 3 sc_known.nd)) (fun _ _ _ _ _ => jts_nil) (fun _ _ _ _ _ => (jd_v (jlst (ja_cons (jvar 3) ja_nil)))))) (jr_v (jcomp2 (vs1 := [5]) sc_known.nd (jc_bor (jr_d (jvar 1))) (blkOk_by (own := [(("one" : Str), 4), (("other" : Str), 5)]) (by kernel_rfl)) (by decide) (fun _ _ _ _ _ => (jg_name 4 sc_known.nd)) (fun _ _ _ _ _ => jts_nil) (fun _ _ _ _ _ => (ji_seq (jvar 1))) (fun _ _ _ _ _ => (jg_name 5 sc_known.nd)) (fun _ _ _ _ _ => jts_nil) (fun _ _ _ _ _ => (jd_v (jlst (ja_cons (jvar 4) (ja_cons (jvar 5) ja_nil)))))))))) (jg_name 2 sc_known.nd) (js_cons (js_unp (jd_v (jcall h_two_numbers hr (jvs_cons (jvar 0) (jvs_cons (jvar 2) jvs_nil)))) (jg_tup (jgs_cons (jg_name 6 sc_known.nd) (jgs_cons (jg_name 7 sc_known.nd) jgs_nil)))) (js_one (jif_s (teq hu (jr_d (jvar 6)) (jr_d (jvar 7))) (js_one (js_ret (jv_d (jvar 2)))) js_nil)))) (js_one (js_ret (jv_d jnon)))))
theorem bd_suits_all (B : Bn mg) (h : All P w K mg base k) (f : Addr) (cdv : Value) (A : Around) (outer : List PySem.Env) (s : Shared) (H : Hp) (E : XK) (hr : Room k (A.deeper (envOfC "suits_all" (defScope s_suits_all) s.heap.objs.size f cdv))) : JSs (cxOf CX0 P w K mg base ["folk", "low", "high"] "suits_all" (defScope s_suits_all) f cdv A outer s H E).nox (defBody s_suits_all) (b58 (callK tb k)) := by
  have hu : (A.deeper (envOfC "suits_all" (defScope s_suits_all) s.heap.objs.size f cdv)).units + 64 < cLine := by have := hr.un; omega
  have h_greatest_low := h.h_greatest_low
  have h_least_high := h.h_least_high
  exact (js_cons (js_par2 sc_suits_all.nd (jw_cons (jd_v (jcall h_greatest_low hr (jvs_cons (jvar 0) jvs_nil))) (jw_cons (jd_v (jcall h_least_high hr (jvs_cons (jvar 0) jvs_nil))) jw_nil))) (js_one (js_ret (jv_d (jif (tle hu (jr_d (jvar 1)) (jr_d (jvar 2))) (jtup (ja_cons (jvar 1) (ja_cons (jvar 2) ja_nil))) jnon)))))
theorem bd_at_home (B : Bn mg) (h : All P w K mg base k) (f : Addr) (cdv : Value) (A : Around) (outer : List PySem.Env) (s : Shared) (H : Hp) (E : XK) (hr : Room k (A.deeper (envOfC "at_home" (defScope s_at_home) s.heap.objs.size f cdv))) : JSs (cxOf CX0 P w K mg base ["folk", "rows", "degree", "out", "name", "low", "high"] "at_home" (defScope s_at_home) f cdv A outer s H E).nox (defBody s_at_home) (b59 (callK tb k)) := by
  have hu : (A.deeper (envOfC "at_home" (defScope s_at_home) s.heap.objs.size f cdv)).units + 64 < cLine := by have := hr.un; omega
  obtain ⟨t_TOP, g_TOP⟩ := B.g_TOP
  have m_len := B.m_len
  have m_min := B.m_min
  have m_range := B.m_range
  have m_tuple := B.m_tuple
  exact (js_cons (js_asgO sc_at_home.nd (jlst ja_nil)) (js_cons (js_for (ji_range1 m_range (jr_cons (jr_v (jadd (jr_d (jgint g_TOP)) (jr_d jint))) jr_nil)) (jg_name 2 sc_at_home.nd) (js_cons (js_asg sc_at_home.nd (jtuple m_tuple (jr_cons (jr_v (jcomp sc_at_home.nd (jc_bor (jr_d (jvar 0))) (blkOk_by (own := [(("name" : Str), 4), (("low" : Str), 5), (("high" : Str), 6)]) (by kernel_rfl)) (fun _ _ _ _ _ => (jg_tup (jgs_cons (jg_name 4 sc_at_home.nd) (jgs_cons (jg_name 5 sc_at_home.nd) (jgs_cons (jg_name 6 sc_at_home.nd) jgs_nil))))) (fun _ _ _ _ _ => (jts_one (jtnot (tchLL (jr_d (jvar 5)) (jr_d (jvar 2)) (jr_d (jvar 6)))))) (fun _ _ _ _ _ => (jvar 4)))) jr_nil))) (js_one (js_mut (i := 1) PySem.F.slot_list_append PySem.F.type_list_append mt_append app_m (ja_cons (jtup (ja_cons (jd_v (jlen m_len (jr_cons (jr_d (jvar 3)) jr_nil))) (ja_cons (jvar 3) ja_nil))) ja_nil))))) (js_one (js_ret (jix (jr_v (jminL m_min hu (jr_cons (jbor 1) jr_nil))) (jr_d jint))))))
theorem bd_widened (B : Bn mg) (h : All P w K mg base k) (f : Addr) (cdv : Value) (A : Around) (outer : List PySem.Env) (s : Shared) (H : Hp) (E : XK) (hr : Room k (A.deeper (envOfC "widened" (defScope s_widened) s.heap.objs.size f cdv))) : JSs (cxOf CX0 P w K mg base ["folk"] "widened" (defScope s_widened) f cdv A outer s H E).nox (defBody s_widened) (b60 (callK tb k)) := by
  have hu : (A.deeper (envOfC "widened" (defScope s_widened) s.heap.objs.size f cdv)).units + 64 < cLine := by have := hr.un; omega
  have m_max := B.m_max
  have h_greatest_low := h.h_greatest_low
  have h_least_high := h.h_least_high
  exact (js_one (js_ret (jmax2 m_max (jr_cons (jr_d jint) (jr_cons (jr_v (jfdiv (jr_v (jadd (jr_v (jsub (jr_v (jcall h_greatest_low hr (jvs_cons (jvar 0) jvs_nil))) (jr_v (jcall h_least_high hr (jvs_cons (jvar 0) jvs_nil))))) (jr_d jint))) (jr_d jint))) jr_nil)))))
theorem bd__law_draw (B : Bn mg) (h : All P w K mg base k) (f : Addr) (cdv : Value) (A : Around) (outer : List PySem.Env) (s : Shared) (H : Hp) (E : XK) (hr : Room k (A.deeper (envOfC "_law_draw" (defScope s__law_draw) s.heap.objs.size f cdv))) : JSs (cxOf CX0 P w K mg base ["tape", "many", "prime", "cell", "found"] "_law_draw" (defScope s__law_draw) f cdv A outer s H E).nox (defBody s__law_draw) (b4 (callK tb k)) := by
  have hu : (A.deeper (envOfC "_law_draw" (defScope s__law_draw) s.heap.objs.size f cdv)).units + 64 < cLine := by have := hr.un; omega
  have m_len := B.m_len
  exact (js_cons (js_asg sc__law_draw.nd (jv_d jint)) (js_cons (jif_s (tlt hu (jr_d (jtapix (jtap 0))) (jr_d (jvar 1))) (js_cons (js_asg sc__law_draw.nd (jv_d jint)) (js_cons (jif_s (tgt hu (jr_v (jlen m_len (jr_cons (jr_d (jtapix (jtap 0))) jr_nil))) (jr_d jint)) (js_one (js_asg sc__law_draw.nd (jix (jr_d (jtapix (jtap 0))) (jr_v (jmod (jr_d (jtapix (jtap 0))) (jr_v (jlen m_len (jr_cons (jr_d (jtapix (jtap 0))) jr_nil)))))))) js_nil) (js_cons (jif_s (jtw (jwor (tge hu (jr_d (jtapix (jtap 0))) (jr_v (jlen m_len (jr_cons (jr_d (jtapix (jtap 0))) jr_nil)))) (jwor1 (tlt hu (jr_d (jvar 3)) (jr_v (jpow (jr_d jint) (jr_d jint))))))) (js_cons (js_asg sc__law_draw.nd (jmod (jr_v (jadd (jr_d (jvar 3)) (jr_v (jmul (jr_d jint) (jr_d (jtapix (jtap 0))))))) (jr_d (jvar 2)))) (js_cons (js_asg sc__law_draw.nd (jmod (jr_v (jadd (jr_v (jadd (jr_v (jmul (jr_d (jvar 3)) (jr_d (jvar 3)))) (jr_v (jmul (jr_d jint) (jr_d (jvar 3)))))) (jr_d jint))) (jr_d (jvar 2)))) (js_one (js_asg sc__law_draw.nd (jmod (jr_v (jadd (jr_v (jmul (jr_d (jvar 3)) (jr_d (jvar 3)))) (jr_d jint))) (jr_d (jvar 2))))))) js_nil) (js_cons (js_tap (i := 0) (j := 1) (jd_v (jadd (jr_d (jtapix (jtap 0))) (jr_d jint)))) (js_one (js_tap (i := 0) (j := 2) (jvar 3))))))) js_nil) (js_cons (js_asg sc__law_draw.nd (jmod (jr_d (jtapix (jtap 0))) (jr_d (jvar 1)))) (js_cons (js_tap (i := 0) (j := 2) (jd_v (jfdiv (jr_d (jtapix (jtap 0))) (jr_d (jvar 1))))) (js_one (js_ret (jv_d (jvar 4))))))))
theorem bd__law_like (B : Bn mg) (h : All P w K mg base k) (f : Addr) (cdv : Value) (A : Around) (outer : List PySem.Env) (s : Shared) (H : Hp) (E : XK) (hr : Room k (A.deeper (envOfC "_law_like" (defScope s__law_like) s.heap.objs.size f cdv))) : JSs (cxOf CX0 P w K mg base ["one", "two", "k"] "_law_like" (defScope s__law_like) f cdv A outer s H E).nox (defBody s__law_like) (b7 (callK tb k)) := by
  have hu : (A.deeper (envOfC "_law_like" (defScope s__law_like) s.heap.objs.size f cdv)).units + 64 < cLine := by have := hr.un; omega
  have m_bool := B.m_bool
  have m_isinstance := B.m_isinstance
  have m_len := B.m_len
  have m_list := B.m_list
  have m_range := B.m_range
  have m_tuple := B.m_tuple
  have h__law_like := h.h__law_like
  exact (js_cons (jif_s (tvalD (jisi2 .list .tuple m_isinstance m_list m_tuple (jr_d (jvar 0)))) (js_cons (jif_s (jtw (jwor (tne hu (jr_d (jisi .list m_isinstance m_list (jr_d (jvar 0)))) (jr_d (jisi .list m_isinstance m_list (jr_d (jvar 1))))) (jwor1 (tne hu (jr_d (jisi .tuple m_isinstance m_tuple (jr_d (jvar 0)))) (jr_d (jisi .tuple m_isinstance m_tuple (jr_d (jvar 1)))))))) (js_one (js_ret (jv_d jbl))) js_nil) (js_cons (jif_s (tne hu (jr_v (jlen m_len (jr_cons (jr_d (jvar 0)) jr_nil))) (jr_v (jlen m_len (jr_cons (jr_d (jvar 1)) jr_nil)))) (js_one (js_ret (jv_d jbl))) js_nil) (js_one (js_ret (jeq hu (jr_v (jcomp sc__law_like.nd (jc_i (ji_range1 m_range (jr_cons (jr_v (jlen m_len (jr_cons (jr_d (jvar 0)) jr_nil))) jr_nil))) (blkOk_by (own := [(("k" : Str), 2)]) (by kernel_rfl)) (fun _ _ _ _ _ => (jg_name 2 sc__law_like.nd)) (fun _ _ _ _ _ => (jts_one (jtnot (tval (jcall h__law_like hr (jvs_cons (jd_v (jix (jr_d (jvar 0)) (jr_d (jvar 2)))) (jvs_cons (jd_v (jix (jr_d (jvar 1)) (jr_d (jvar 2)))) jvs_nil))))))) (fun _ _ _ _ _ => (jvar 2)))) (jr_v (jlst ja_nil))))))) js_nil) (js_cons (jif_s (tvalD (jisi2 .list .tuple m_isinstance m_list m_tuple (jr_d (jvar 1)))) (js_one (js_ret (jv_d jbl))) js_nil) (js_one (js_ret (jv_d (jand (jd_v (jeq hu (jr_d (jisi .bool m_isinstance m_bool (jr_d (jvar 0)))) (jr_d (jisi .bool m_isinstance m_bool (jr_d (jvar 1)))))) (jbone (jd_v (jeq hu (jr_d (jvar 0)) (jr_d (jvar 1)))))))))))
theorem bd__law_two_right (B : Bn mg) (h : All P w K mg base k) (f : Addr) (cdv : Value) (A : Around) (outer : List PySem.Env) (s : Shared) (H : Hp) (E : XK) (hr : Room k (A.deeper (envOfC "_law_two_right" (defScope s__law_two_right) s.heap.objs.size f cdv))) : JSs (cxOf CX0 P w K mg base ["by", "my_folk", "my_order", "rows"] "_law_two_right" (defScope s__law_two_right) f cdv A outer s H E).nox (defBody s__law_two_right) (b69 (callK tb k)) := by
  have hu : (A.deeper (envOfC "_law_two_right" (defScope s__law_two_right) s.heap.objs.size f cdv)).units + 64 < cLine := by have := hr.un; omega
  have h__law_three_right := h.h__law_three_right
  have h_are_folk := h.h_are_folk
  have h_each_day := h.h_each_day
  have h_far_setting := h.h_far_setting
  have h_far_turned := h.h_far_turned
  have h_settings := h.h_settings
  have h_turned := h.h_turned
  have h_two_numbers := h.h_two_numbers
  have kw_are_folk := h.kw_are_folk
  have kw_each_day := h.kw_each_day
  have kw_far_setting := h.kw_far_setting
  have kw_far_turned := h.kw_far_turned
  have kw_settings := h.kw_settings
  have kw_turned := h.kw_turned
  have kw_two_numbers := h.kw_two_numbers
  exact (js_cons (js_asg sc__law_two_right.nd (jv_d (jtup (ja_cons (jtup (ja_cons jstr (ja_cons (jvar 0) (ja_cons (jd_v (jadd (jr_d (jvar 0)) (jr_d jint))) ja_nil)))) (ja_cons (jtup (ja_cons jstr (ja_cons (jd_v (jadd (jr_d (jvar 0)) (jr_d jint))) (ja_cons (jd_v (jadd (jr_d (jvar 0)) (jr_d jint))) ja_nil)))) (ja_cons (jtup (ja_cons jstr (ja_cons (jd_v (jadd (jr_d (jvar 0)) (jr_d jint))) (ja_cons (jd_v (jadd (jr_d (jvar 0)) (jr_d jint))) ja_nil)))) ja_nil)))))) (js_cons (js_asg sc__law_two_right.nd (jv_d (jtup (ja_cons jstr (ja_cons jstr (ja_cons jstr ja_nil)))))) (js_cons (js_asg sc__law_two_right.nd (jcallKw kw_settings h_settings hr (jks_cons (jvar 1) (jks_cons (jd_v (jadd (jr_d (jvar 0)) (jr_d jint))) (jks_cons (jd_v (jlst (ja_cons jstr (ja_cons jstr (ja_cons jstr (ja_cons jstr ja_nil)))))) jks_nil))))) (js_cons (jif_s (jtw (jwor (jtnot (tval (jcallKw kw_are_folk h_are_folk hr (jks_cons (jvar 1) jks_nil)))) (jwor1 (tne hu (jr_d (jvar 3)) (jr_v (jlst (ja_cons (jd_v (jadd (jr_d (jvar 0)) (jr_d jint))) (ja_cons (jd_v (jadd (jr_d (jvar 0)) (jr_d jint))) (ja_cons (jd_v (jadd (jr_d (jvar 0)) (jr_d jint))) (ja_cons (jd_v (jadd (jr_d (jvar 0)) (jr_d jint))) ja_nil)))))))))) (js_one (js_ret (jv_d jbl))) js_nil) (js_cons (jif_s (tne hu (jr_v (jcallKw kw_turned h_turned hr (jks_cons (jvar 1) (jks_cons (jd_v (jadd (jr_d (jvar 0)) (jr_d jint))) (jks_cons (jd_v (jlst (ja_cons jstr (ja_cons jstr ja_nil)))) jks_nil))))) (jr_d jint)) (js_one (js_ret (jv_d jbl))) js_nil) (js_cons (jif_s (tne hu (jr_v (jcallKw kw_two_numbers h_two_numbers hr (jks_cons (jvar 1) (jks_cons (jd_v (jlst (ja_cons jstr ja_nil))) jks_nil)))) (jr_d (jtup (ja_cons (jd_v (jadd (jr_d (jvar 0)) (jr_d jint))) (ja_cons (jd_v (jadd (jr_d (jvar 0)) (jr_d jint))) ja_nil))))) (js_one (js_ret (jv_d jbl))) js_nil) (js_cons (jif_s (tne hu (jr_v (jcallKw kw_two_numbers h_two_numbers hr (jks_cons (jvar 1) (jks_cons (jd_v (jlst (ja_cons jstr (ja_cons jstr ja_nil)))) jks_nil)))) (jr_d (jtup (ja_cons (jd_v (jadd (jr_d (jvar 0)) (jr_d jint))) (ja_cons (jd_v (jadd (jr_d (jvar 0)) (jr_d jint))) ja_nil))))) (js_one (js_ret (jv_d jbl))) js_nil) (js_cons (jif_s (tne hu (jr_v (jcallKw kw_each_day h_each_day hr (jks_cons (jvar 1) (jks_cons (jvar 2) jks_nil)))) (jr_d jint)) (js_one (js_ret (jv_d jbl))) js_nil) (js_cons (jif_s (tne hu (jr_v (jcallKw kw_far_turned h_far_turned hr (jks_cons (jvar 1) (jks_cons (jd_v (jadd (jr_d (jvar 0)) (jr_d jint))) (jks_cons (jvar 2) (jks_cons (jd_v (jpow (jr_d jint) (jr_d jint))) jks_nil)))))) (jr_v (jsub (jr_v (jmul (jr_d jint) (jr_v (jpow (jr_d jint) (jr_d jint))))) (jr_d jint)))) (js_one (js_ret (jv_d jbl))) js_nil) (js_cons (jif_s (tne hu (jr_v (jcallKw kw_far_setting h_far_setting hr (jks_cons (jvar 1) (jks_cons (jd_v (jadd (jr_d (jvar 0)) (jr_d jint))) (jks_cons (jvar 2) (jks_cons jint jks_nil)))))) (jr_v (jadd (jr_d (jvar 0)) (jr_d jint)))) (js_one (js_ret (jv_d jbl))) js_nil) (js_cons (jif_s (jtw (jwor (tne hu (jr_v (jcall h_far_setting hr (jvs_cons (jvar 1) (jvs_cons jint (jvs_cons (jvar 2) (jvs_cons jint jvs_nil)))))) (jr_d jint)) (jwor1 (tne hu (jr_v (jcall h_far_turned hr (jvs_cons (jvar 1) (jvs_cons jint (jvs_cons (jvar 2) (jvs_cons jint jvs_nil)))))) (jr_d jint))))) (js_one (js_ret (jv_d jbl))) js_nil) (js_one (js_ret (jcall h__law_three_right hr (jvs_cons (jvar 0) (jvs_cons (jvar 1) (jvs_cons (jvar 2) jvs_nil)))))))))))))))))
theorem bd__law_three_right (B : Bn mg) (h : All P w K mg base k) (f : Addr) (cdv : Value) (A : Around) (outer : List PySem.Env) (s : Shared) (H : Hp) (E : XK) (hr : Room k (A.deeper (envOfC "_law_three_right" (defScope s__law_three_right) s.heap.objs.size f cdv))) : JSs (cxOf CX0 P w K mg base ["by", "my_folk", "my_order", "step", "some", "told"] "_law_three_right" (defScope s__law_three_right) f cdv A outer s H E).nox (defBody s__law_three_right) (b70 (callK tb k)) := by
  have hu : (A.deeper (envOfC "_law_three_right" (defScope s__law_three_right) s.heap.objs.size f cdv)).units + 64 < cLine := by have := hr.un; omega
  have m_int := B.m_int
  have m_range := B.m_range
  have m_sorted := B.m_sorted
  have h_amounts := h.h_amounts
  have h_at_home := h.h_at_home
  have h_crossed := h.h_crossed
  have h_known := h.h_known
  have h_least := h.h_least
  have h_least_order := h.h_least_order
  have h_most := h.h_most
  have h_most_by := h.h_most_by
  have h_most_crossed := h.h_most_crossed
  have h_most_order := h.h_most_order
  have h_onlookers := h.h_onlookers
  have h_shares := h.h_shares
  have h_suits_all := h.h_suits_all
  have h_widened := h.h_widened
  have kw_amounts := h.kw_amounts
  have kw_at_home := h.kw_at_home
  have kw_crossed := h.kw_crossed
  have kw_known := h.kw_known
  have kw_least := h.kw_least
  have kw_least_order := h.kw_least_order
  have kw_most := h.kw_most
  have kw_most_by := h.kw_most_by
  have kw_most_crossed := h.kw_most_crossed
  have kw_most_order := h.kw_most_order
  have kw_onlookers := h.kw_onlookers
  have kw_shares := h.kw_shares
  have kw_suits_all := h.kw_suits_all
  have kw_widened := h.kw_widened
  exact (js_cons (jif_s (tne hu (jr_v (jcallKw kw_crossed h_crossed hr (jks_cons (jvar 1) (jks_cons (jvar 2) jks_nil)))) (jr_v (jcomp sc__law_three_right.nd (jc_i (ji_range1 m_range (jr_cons (jr_d jint) jr_nil))) (blkOk_by (own := [(("step" : Str), 3)]) (by kernel_rfl)) (fun _ _ _ _ _ => (jg_name 3 sc__law_three_right.nd)) (fun _ _ _ _ _ => jts_nil) (fun _ _ _ _ _ => (jd_v (jmul (jr_d jint) (jr_v (jintc m_int (jr_cons (jr_d (jchLl hu (jr_v (jadd (jr_d (jvar 0)) (jr_d jint))) (jr_d (jvar 3)) (jr_v (jadd (jr_d (jvar 0)) (jr_d jint))))) jr_nil))))))))) (js_one (js_ret (jv_d jbl))) js_nil) (js_cons (jif_s (jtw (jwor (tne hu (jr_v (jcallKw kw_shares h_shares hr (jks_cons (jvar 1) (jks_cons (jvar 2) jks_nil)))) (jr_v (jlst (ja_cons (jtup (ja_cons jstr (ja_cons jint ja_nil))) (ja_cons (jtup (ja_cons jstr (ja_cons jint ja_nil))) (ja_cons (jtup (ja_cons jstr (ja_cons jint ja_nil))) ja_nil)))))) (jwor1 (tne hu (jr_v (jcallKw kw_amounts h_amounts hr (jks_cons (jvar 1) jks_nil))) (jr_v (jlst (ja_cons jint ja_nil))))))) (js_one (js_ret (jv_d jbl))) js_nil) (js_cons (jif_s (jtw (jwor (tne hu (jr_v (jcallKw kw_most h_most hr (jks_cons (jvar 1) jks_nil))) (jr_d jint)) (jwor1 (tne hu (jr_v (jcallKw kw_least h_least hr (jks_cons (jvar 1) jks_nil))) (jr_d jint))))) (js_one (js_ret (jv_d jbl))) js_nil) (js_cons (jif_s (tne hu (jr_v (jcallKw kw_most_crossed h_most_crossed hr (jks_cons (jvar 1) jks_nil))) (jr_v (jcall h_crossed hr (jvs_cons (jvar 1) (jvs_cons (jvar 2) jvs_nil))))) (js_one (js_ret (jv_d jbl))) js_nil) (js_cons (js_asg sc__law_three_right.nd (jlst (ja_cons (jd_v (jcallKw kw_most_order h_most_order hr (jks_cons (jvar 1) jks_nil))) (ja_cons (jd_v (jcallKw kw_least_order h_least_order hr (jks_cons (jvar 1) jks_nil))) ja_nil)))) (js_cons (js_for (ji_seq (jvar 4)) (jg_name 5 sc__law_three_right.nd) (js_one (jif_s (tne hu (jr_v (jsorted m_sorted hu (jr_cons (jr_d (jvar 5)) jr_nil))) (jr_v (jlst (ja_cons jstr (ja_cons jstr (ja_cons jstr ja_nil)))))) (js_one (js_ret (jv_d jbl))) js_nil))) (js_cons (jif_s (jtw (jwor (tne hu (jr_v (jcallKw kw_onlookers h_onlookers hr (jks_cons (jvar 1) jks_nil))) (jr_d (jtup (ja_cons jstr ja_nil)))) (jwor1 (tne hu (jr_v (jcallKw kw_most_by h_most_by hr (jks_cons (jvar 1) (jks_cons jstr jks_nil)))) (jr_d jint))))) (js_one (js_ret (jv_d jbl))) js_nil) (js_cons (jif_s (jtw (jwor (tne hu (jr_v (jcallKw kw_known h_known hr (jks_cons (jvar 1) jks_nil))) (jr_v (jlst (ja_cons jstr (ja_cons jstr ja_nil))))) (jwor1 (tisnt hu (jr_v (jcallKw kw_suits_all h_suits_all hr (jks_cons (jvar 1) jks_nil))) (jr_d jnon))))) (js_one (js_ret (jv_d jbl))) js_nil) (js_cons (jif_s (tne hu (jr_v (jcallKw kw_widened h_widened hr (jks_cons (jvar 1) jks_nil))) (jr_d jint)) (js_one (js_ret (jv_d jbl))) js_nil) (js_one (js_ret (jeq hu (jr_v (jcallKw kw_at_home h_at_home hr (jks_cons (jvar 1) jks_nil))) (jr_d (jtup (ja_cons jstr ja_nil)))))))))))))))
theorem bd__law_four_right (B : Bn mg) (h : All P w K mg base k) (f : Addr) (cdv : Value) (A : Around) (outer : List PySem.Env) (s : Shared) (H : Hp) (E : XK) (hr : Room k (A.deeper (envOfC "_law_four_right" (defScope s__law_four_right) s.heap.objs.size f cdv))) : JSs (cxOf CX0 P w K mg base ["by", "my_folk"] "_law_four_right" (defScope s__law_four_right) f cdv A outer s H E).nox (defBody s__law_four_right) (b71 (callK tb k)) := by
  have hu : (A.deeper (envOfC "_law_four_right" (defScope s__law_four_right) s.heap.objs.size f cdv)).units + 64 < cLine := by have := hr.un; omega
  have h_amounts := h.h_amounts
  have h_at_home := h.h_at_home
  have h_each_day := h.h_each_day
  have h_known := h.h_known
  have h_least := h.h_least
  have h_most := h.h_most
  have h_widened := h.h_widened
  exact (js_cons (js_asg sc__law_four_right.nd (jv_d (jtup (ja_cons (jtup (ja_cons jstr (ja_cons (jvar 0) (ja_cons (jvar 0) ja_nil)))) (ja_cons (jtup (ja_cons jstr (ja_cons (jd_v (jadd (jr_d (jvar 0)) (jr_d jint))) (ja_cons (jd_v (jadd (jr_d (jvar 0)) (jr_d jint))) ja_nil)))) (ja_cons (jtup (ja_cons jstr (ja_cons (jd_v (jadd (jr_d (jvar 0)) (jr_d jint))) (ja_cons (jd_v (jadd (jr_d (jvar 0)) (jr_d jint))) ja_nil)))) (ja_cons (jtup (ja_cons jstr (ja_cons (jd_v (jadd (jr_d (jvar 0)) (jr_d jint))) (ja_cons (jd_v (jadd (jr_d (jvar 0)) (jr_d jint))) ja_nil)))) ja_nil))))))) (js_cons (jif_s (jtw (jwor (tne hu (jr_v (jcall h_most hr (jvs_cons (jvar 1) jvs_nil))) (jr_v (jmul (jr_d jint) (jr_v (jsub (jr_v (jsub (jr_v (jadd (jr_d jint) (jr_d jint))) (jr_d jint))) (jr_d jint)))))) (jwor1 (tne hu (jr_v (jcall h_least hr (jvs_cons (jvar 1) jvs_nil))) (jr_d jint))))) (js_one (js_ret (jv_d jbl))) js_nil) (js_cons (jif_s (tne hu (jr_v (jcall h_each_day hr (jvs_cons (jvar 1) (jvs_cons (jtup (ja_cons jstr (ja_cons jstr (ja_cons jstr (ja_cons jstr ja_nil))))) jvs_nil)))) (jr_d jint)) (js_one (js_ret (jv_d jbl))) js_nil) (js_cons (jif_s (jtw (jwor (tne hu (jr_v (jcall h_each_day hr (jvs_cons (jvar 1) (jvs_cons (jtup (ja_cons jstr (ja_cons jstr (ja_cons jstr (ja_cons jstr ja_nil))))) jvs_nil)))) (jr_d jint)) (jwor1 (tne hu (jr_v (jcall h_amounts hr (jvs_cons (jvar 1) jvs_nil))) (jr_v (jlst (ja_cons jint (ja_cons jint ja_nil)))))))) (js_one (js_ret (jv_d jbl))) js_nil) (js_one (js_ret (jv_d (jand (jd_v (jeq hu (jr_v (jcall h_known hr (jvs_cons (jvar 1) jvs_nil))) (jr_v (jlst (ja_cons jstr ja_nil))))) (jand (jd_v (jeq hu (jr_v (jcall h_at_home hr (jvs_cons (jvar 1) jvs_nil))) (jr_d (jtup (ja_cons jstr (ja_cons jstr (ja_cons jstr ja_nil))))))) (jbone (jd_v (jeq hu (jr_v (jcall h_widened hr (jvs_cons (jvar 1) jvs_nil))) (jr_d jint)))))))))))))
theorem bd_law (B : Bn mg) (h : All P w K mg base k) (f : Addr) (cdv : Value) (A : Around) (outer : List PySem.Env) (s : Shared) (H : Hp) (E : XK) (hr : Room k (A.deeper (envOfC "law" (defScope s_law) s.heap.objs.size f cdv))) : JSs (cxOf CX0 P w K mg base ["script", "tape", "turn", "sole", "found"] "law" (defScope s_law) f cdv A outer s H E).nox ((defBody s_law).drop 1) (bl (callK tb k)) := by
  have hu : (A.deeper (envOfC "law" (defScope s_law) s.heap.objs.size f cdv)).units + 64 < cLine := by have := hr.un; omega
  have m_range := B.m_range
  have h__law_draw := h.h__law_draw
  have h__law_four_right := h.h__law_four_right
  have h__law_like := h.h__law_like
  have h__law_two_right := h.h__law_two_right
  have h_amounts := h.h_amounts
  have h_at_home := h.h_at_home
  have h_known := h.h_known
  have h_least := h.h_least
  have h_most := h.h_most
  have h_most_by := h.h_most_by
  have h_onlookers := h.h_onlookers
  have h_suits_all := h.h_suits_all
  have h_widened := h.h_widened
  exact (js_cons (js_for (ji_range1 m_range (jr_cons (jr_d jint) jr_nil)) (jg_name 2 sc_law.nd) (js_one (jif_s (jtw (jwor (jtnot (tval (jcall h__law_two_right hr (jvs_cons (jd_v (jcall h__law_draw hr (jvs_tap (jtap 1) (jvs_cons jint jvs_nil)))) jvs_nil)))) (jwor1 (jtnot (tval (jcall h__law_four_right hr (jvs_cons (jd_v (jcall h__law_draw hr (jvs_tap (jtap 1) (jvs_cons jint jvs_nil)))) jvs_nil))))))) (js_one (js_ret (jv_d jbl))) js_nil))) (js_cons (js_asg sc_law.nd (jv_d (jtup (ja_cons (jtup (ja_cons jstr (ja_cons jint (ja_cons jint ja_nil)))) ja_nil)))) (js_cons (js_asg sc_law.nd (jlst (ja_cons (jd_v (jcall h_most hr (jvs_cons (jvar 3) jvs_nil))) (ja_cons (jd_v (jcall h_least hr (jvs_cons (jvar 3) jvs_nil))) (ja_cons (jd_v (jcall h_amounts hr (jvs_cons (jvar 3) jvs_nil))) (ja_cons (jd_v (jcall h_onlookers hr (jvs_cons (jvar 3) jvs_nil))) (ja_cons (jd_v (jcall h_most_by hr (jvs_cons (jvar 3) (jvs_cons jstr jvs_nil)))) (ja_cons (jd_v (jcall h_known hr (jvs_cons (jvar 3) jvs_nil))) ja_nil)))))))) (js_cons (js_asg sc_law.nd (jadd (jr_d (jvar 4)) (jr_v (jlst (ja_cons (jd_v (jcall h_at_home hr (jvs_cons (jvar 3) jvs_nil))) (ja_cons (jd_v (jcall h_suits_all hr (jvs_cons (jvar 3) jvs_nil))) (ja_cons (jd_v (jcall h_widened hr (jvs_cons (jvar 3) jvs_nil))) ja_nil))))))) (js_one (js_ret (jcall h__law_like hr (jvs_cons (jvar 4) (jvs_cons (jd_v (jlst (ja_cons jint (ja_cons jint (ja_cons (jd_v (jlst (ja_cons jint ja_nil))) (ja_cons (jtup (ja_cons jstr ja_nil)) (ja_cons jint (ja_cons jnon (ja_cons (jtup ja_nil) (ja_cons (jtup (ja_cons jint (ja_cons jint ja_nil))) (ja_cons jint ja_nil))))))))))) jvs_nil)))))))))
theorem all_k (F : Fds K mg cL) (B : Bn mg) (lc : Lam1 base mg cL PL (("most_order" : Str) ++ ".<locals>." ++ "<lambda>")) : ∀ k, All P w K mg base k
  | 0 => ⟨has_zero F.f_is_within _ rfl, has_zero F.f_is_name _ rfl, has_zero F.f_is_one _ rfl, has_zero F.f_are_folk _ rfl, has_zero F.f_suited _ rfl, has_zero F.f_settings _ rfl, has_zero F.f_turned _ rfl, has_zero F.f_two_numbers _ rfl, has_zero F.f_first_day _ rfl, has_zero F.f_far_setting _ rfl, has_zero F.f_each_day _ rfl, has_zero F.f_far_turned _ rfl, has_zero F.f_moves _ rfl, has_zero F.f_crossed _ rfl, has_zero F.f_shares _ rfl, has_zero F.f_names_of _ rfl, has_zero F.f_greatest_low _ rfl, has_zero F.f_least_high _ rfl, has_zero F.f_lesser_side _ rfl, has_zero F.f_most_crossed _ rfl, has_zero F.f_most _ rfl, has_zero F.f_least _ rfl, has_zero F.f_most_order.fd _ rfl, has_zero F.f_least_order _ rfl, has_zero F.f_orders _ rfl, has_zero F.f_amounts _ rfl, has_zero F.f_most_by _ rfl, has_zero F.f_onlookers _ rfl, has_zero F.f_known _ rfl, has_zero F.f_suits_all _ rfl, has_zero F.f_at_home _ rfl, has_zero F.f_widened _ rfl, has_zero F.f__law_draw _ rfl, has_zero F.f__law_like _ rfl, has_zero F.f__law_two_right _ rfl, has_zero F.f__law_three_right _ rfl, has_zero F.f__law_four_right _ rfl, F.kw_are_folk, F.kw_settings, F.kw_turned, F.kw_two_numbers, F.kw_far_setting, F.kw_each_day, F.kw_far_turned, F.kw_crossed, F.kw_shares, F.kw_most_crossed, F.kw_most, F.kw_least, F.kw_most_order, F.kw_least_order, F.kw_amounts, F.kw_most_by, F.kw_onlookers, F.kw_known, F.kw_suits_all, F.kw_at_home, F.kw_widened⟩
  | k + 1 => ⟨has_step (b := b0) F.f_is_within sc_is_within _ _ rfl rfl rfl (bd_is_within B (all_k F B lc k)), has_step (b := b1) F.f_is_name sc_is_name _ _ rfl rfl rfl (bd_is_name B (all_k F B lc k)), has_step (b := b2) F.f_is_one sc_is_one _ _ rfl rfl rfl (bd_is_one B (all_k F B lc k)), has_step (b := b3) F.f_are_folk sc_are_folk _ _ rfl rfl rfl (bd_are_folk B (all_k F B lc k)), has_step (b := b15) F.f_suited sc_suited _ _ rfl rfl rfl (bd_suited B (all_k F B lc k)), has_step (b := b16) F.f_settings sc_settings _ _ rfl rfl rfl (bd_settings B (all_k F B lc k)), has_step (b := b17) F.f_turned sc_turned _ _ rfl rfl rfl (bd_turned B (all_k F B lc k)), has_step (b := b18) F.f_two_numbers sc_two_numbers _ _ rfl rfl rfl (bd_two_numbers B (all_k F B lc k)), has_step (b := b26) F.f_first_day sc_first_day _ _ rfl rfl rfl (bd_first_day B (all_k F B lc k)), has_step (b := b27) F.f_far_setting sc_far_setting _ _ rfl rfl rfl (bd_far_setting B (all_k F B lc k)), has_step (b := b28) F.f_each_day sc_each_day _ _ rfl rfl rfl (bd_each_day B (all_k F B lc k)), has_step (b := b29) F.f_far_turned sc_far_turned _ _ rfl rfl rfl (bd_far_turned B (all_k F B lc k)), has_step (b := b35) F.f_moves sc_moves _ _ rfl rfl rfl (bd_moves B (all_k F B lc k)), has_step (b := b36) F.f_crossed sc_crossed _ _ rfl rfl rfl (bd_crossed B (all_k F B lc k)), has_step (b := b37) F.f_shares sc_shares _ _ rfl rfl rfl (bd_shares B (all_k F B lc k)), has_step (b := b46) F.f_names_of sc_names_of _ _ rfl rfl rfl (bd_names_of B (all_k F B lc k)), has_step (b := b47) F.f_greatest_low sc_greatest_low _ _ rfl rfl rfl (bd_greatest_low B (all_k F B lc k)), has_step (b := b48) F.f_least_high sc_least_high _ _ rfl rfl rfl (bd_least_high B (all_k F B lc k)), has_step (b := b39) F.f_lesser_side sc_lesser_side _ _ rfl rfl rfl (bd_lesser_side B (all_k F B lc k)), has_step (b := b40) F.f_most_crossed sc_most_crossed _ _ rfl rfl rfl (bd_most_crossed B (all_k F B lc k)), has_step (b := b41) F.f_most sc_most _ _ rfl rfl rfl (bd_most B (all_k F B lc k)), has_step (b := b49) F.f_least sc_least _ _ rfl rfl rfl (bd_least B (all_k F B lc k)), has_stepL (b := b42) F.f_most_order sc_most_order _ _ rfl rfl rfl (bd_most_order B (all_k F B lc k) lc), has_step (b := b50) F.f_least_order sc_least_order _ _ rfl rfl rfl (bd_least_order B (all_k F B lc k)), has_step (b := b51) F.f_orders sc_orders _ _ rfl rfl rfl (bd_orders B (all_k F B lc k)), has_step (b := b52) F.f_amounts sc_amounts _ _ rfl rfl rfl (bd_amounts B (all_k F B lc k)), has_step (b := b54) F.f_most_by sc_most_by _ _ rfl rfl rfl (bd_most_by B (all_k F B lc k)), has_step (b := b55) F.f_onlookers sc_onlookers _ _ rfl rfl rfl (bd_onlookers B (all_k F B lc k)), has_step (b := b57) F.f_known sc_known _ _ rfl rfl rfl (bd_known B (all_k F B lc k)), has_step (b := b58) F.f_suits_all sc_suits_all _ _ rfl rfl rfl (bd_suits_all B (all_k F B lc k)), has_step (b := b59) F.f_at_home sc_at_home _ _ rfl rfl rfl (bd_at_home B (all_k F B lc k)), has_step (b := b60) F.f_widened sc_widened _ _ rfl rfl rfl (bd_widened B (all_k F B lc k)), has_step (b := b4) F.f__law_draw sc__law_draw _ _ rfl rfl rfl (bd__law_draw B (all_k F B lc k)), has_step (b := b7) F.f__law_like sc__law_like _ _ rfl rfl rfl (bd__law_like B (all_k F B lc k)), has_step (b := b69) F.f__law_two_right sc__law_two_right _ _ rfl rfl rfl (bd__law_two_right B (all_k F B lc k)), has_step (b := b70) F.f__law_three_right sc__law_three_right _ _ rfl rfl rfl (bd__law_three_right B (all_k F B lc k)), has_step (b := b71) F.f__law_four_right sc__law_four_right _ _ rfl rfl rfl (bd__law_four_right B (all_k F B lc k)), F.kw_are_folk, F.kw_settings, F.kw_turned, F.kw_two_numbers, F.kw_far_setting, F.kw_each_day, F.kw_far_turned, F.kw_crossed, F.kw_shares, F.kw_most_crossed, F.kw_most, F.kw_least, F.kw_most_order, F.kw_least_order, F.kw_amounts, F.kw_most_by, F.kw_onlookers, F.kw_known, F.kw_suits_all, F.kw_at_home, F.kw_widened⟩
theorem ok_law {f : Addr} {fd : FuncData} (F : Fun K "law" "law" s_law f fd) (B : Bn mg) (h : All P w K mg base 40) (hp : ∀ ns : List Int, ns.length ≤ 63 → ∃ τ, bl (callK tb 40) (lawE 5) ⟨ns, 0, 0⟩ = some (.rt (.sh (.bool true)), τ)) : FnOk P w K mg base CX0 41 f fd ["script"] (spLaw K) := by
  refine F.ok sc_law (fun vs H Q E h => ?_) fun cdv A outer s H vs Q E hr hs => ⟨_, pss_cons (ps_set (i := 1) sc_law.nd rfl (.inl rfl) (pe_lst (pa_cons (pe_callTy call_list_of rfl B.m_list (by decide +kernel) (pa_cons (pe_var (i := 0) rfl (.inl rfl)) pa_nil) (by decide) (by decide)) (pa_cons pe_int (pa_cons pe_int pa_nil))))) (bd_law B h f cdv A outer s H E hr), law_start (N := ["script", "tape", "turn", "sole", "found"]) (by decide) hs hp⟩
  obtain ⟨a, ns, rfl, _⟩ := h
  rfl
end
end
set_option maxHeartbeats 0 in
theorem all_mk {l : PySem.W.OpenLaw} {w : World} {K : PySem.W.Frag} {h : Heap} {mg : Str → Option Value} {fa : Addr} (X : K.In h) (G : h.Ns mainGlobals mg) (hfa : mg "law" = some (.ref fa)) (own : ∀ y ∈ (["most_order"] : List Str), ∀ (fb c : Addr) (o : Obj) (fd : FuncData), mg y = some (.ref fb) → h.get? fb = some o → o.data = .func fd → fd.code = .ref c → ∃ P, PySem.W.CodeHd h c P ∧ h.get? P = some { cls := .none, data := .fields #[] })
    {f0 : Addr} {od0 an0 : Option Addr} {sl0 : Array (Option Value)} {oc0 kV0 dc0 pm0 cd0 ct0 : Value}
    {f1 : Addr} {od1 an1 : Option Addr} {sl1 : Array (Option Value)} {oc1 kV1 dc1 pm1 cd1 ct1 : Value}
    {f2 : Addr} {od2 an2 : Option Addr} {sl2 : Array (Option Value)} {oc2 kV2 dc2 pm2 cd2 ct2 : Value}
    {f3 : Addr} {od3 an3 : Option Addr} {sl3 : Array (Option Value)} {oc3 kV3 dc3 pm3 cd3 ct3 : Value}
    {f4 : Addr} {od4 an4 : Option Addr} {sl4 : Array (Option Value)} {oc4 kV4 dc4 pm4 cd4 ct4 : Value}
    {f5 : Addr} {od5 an5 : Option Addr} {sl5 : Array (Option Value)} {oc5 kV5 dc5 pm5 cd5 ct5 : Value}
    {f6 : Addr} {od6 an6 : Option Addr} {sl6 : Array (Option Value)} {oc6 kV6 dc6 pm6 cd6 ct6 : Value}
    {f7 : Addr} {od7 an7 : Option Addr} {sl7 : Array (Option Value)} {oc7 kV7 dc7 pm7 cd7 ct7 : Value}
    {f8 : Addr} {od8 an8 : Option Addr} {sl8 : Array (Option Value)} {oc8 kV8 dc8 pm8 cd8 ct8 : Value}
    {f9 : Addr} {od9 an9 : Option Addr} {sl9 : Array (Option Value)} {oc9 kV9 dc9 pm9 cd9 ct9 : Value}
    {f10 : Addr} {od10 an10 : Option Addr} {sl10 : Array (Option Value)} {oc10 kV10 dc10 pm10 cd10 ct10 : Value}
    {f11 : Addr} {od11 an11 : Option Addr} {sl11 : Array (Option Value)} {oc11 kV11 dc11 pm11 cd11 ct11 : Value}
    {f12 : Addr} {od12 an12 : Option Addr} {sl12 : Array (Option Value)} {oc12 kV12 dc12 pm12 cd12 ct12 : Value}
    {f13 : Addr} {od13 an13 : Option Addr} {sl13 : Array (Option Value)} {oc13 kV13 dc13 pm13 cd13 ct13 : Value}
    {f14 : Addr} {od14 an14 : Option Addr} {sl14 : Array (Option Value)} {oc14 kV14 dc14 pm14 cd14 ct14 : Value}
    {f15 : Addr} {od15 an15 : Option Addr} {sl15 : Array (Option Value)} {oc15 kV15 dc15 pm15 cd15 ct15 : Value}
    {f16 : Addr} {od16 an16 : Option Addr} {sl16 : Array (Option Value)} {oc16 kV16 dc16 pm16 cd16 ct16 : Value}
    {f17 : Addr} {od17 an17 : Option Addr} {sl17 : Array (Option Value)} {oc17 kV17 dc17 pm17 cd17 ct17 : Value}
    {f18 : Addr} {od18 an18 : Option Addr} {sl18 : Array (Option Value)} {oc18 kV18 dc18 pm18 cd18 ct18 : Value}
    {f19 : Addr} {od19 an19 : Option Addr} {sl19 : Array (Option Value)} {oc19 kV19 dc19 pm19 cd19 ct19 : Value}
    {f20 : Addr} {od20 an20 : Option Addr} {sl20 : Array (Option Value)} {oc20 kV20 dc20 pm20 cd20 ct20 : Value}
    {f21 : Addr} {od21 an21 : Option Addr} {sl21 : Array (Option Value)} {oc21 kV21 dc21 pm21 cd21 ct21 : Value}
    {f22 : Addr} {od22 an22 : Option Addr} {sl22 : Array (Option Value)} {oc22 kV22 dc22 pm22 ct22 : Value}
    {f23 : Addr} {od23 an23 : Option Addr} {sl23 : Array (Option Value)} {oc23 kV23 dc23 pm23 cd23 ct23 : Value}
    {f24 : Addr} {od24 an24 : Option Addr} {sl24 : Array (Option Value)} {oc24 kV24 dc24 pm24 cd24 ct24 : Value}
    {f25 : Addr} {od25 an25 : Option Addr} {sl25 : Array (Option Value)} {oc25 kV25 dc25 pm25 cd25 ct25 : Value}
    {f26 : Addr} {od26 an26 : Option Addr} {sl26 : Array (Option Value)} {oc26 kV26 dc26 pm26 cd26 ct26 : Value}
    {f27 : Addr} {od27 an27 : Option Addr} {sl27 : Array (Option Value)} {oc27 kV27 dc27 pm27 cd27 ct27 : Value}
    {f28 : Addr} {od28 an28 : Option Addr} {sl28 : Array (Option Value)} {oc28 kV28 dc28 pm28 cd28 ct28 : Value}
    {f29 : Addr} {od29 an29 : Option Addr} {sl29 : Array (Option Value)} {oc29 kV29 dc29 pm29 cd29 ct29 : Value}
    {f30 : Addr} {od30 an30 : Option Addr} {sl30 : Array (Option Value)} {oc30 kV30 dc30 pm30 cd30 ct30 : Value}
    {f31 : Addr} {od31 an31 : Option Addr} {sl31 : Array (Option Value)} {oc31 kV31 dc31 pm31 cd31 ct31 : Value}
    {f32 : Addr} {od32 an32 : Option Addr} {sl32 : Array (Option Value)} {oc32 kV32 dc32 pm32 cd32 ct32 : Value}
    {f33 : Addr} {od33 an33 : Option Addr} {sl33 : Array (Option Value)} {oc33 kV33 dc33 pm33 cd33 ct33 : Value}
    {f34 : Addr} {od34 an34 : Option Addr} {sl34 : Array (Option Value)} {oc34 kV34 dc34 pm34 cd34 ct34 : Value}
    {f35 : Addr} {od35 an35 : Option Addr} {sl35 : Array (Option Value)} {oc35 kV35 dc35 pm35 cd35 ct35 : Value}
    {f36 : Addr} {od36 an36 : Option Addr} {sl36 : Array (Option Value)} {oc36 kV36 dc36 pm36 cd36 ct36 : Value}
    {f37 : Addr} {od37 an37 : Option Addr} {sl37 : Array (Option Value)} {oc37 kV37 dc37 pm37 cd37 ct37 : Value}
    {cL PL : Addr} {eL : Value} {ddL : Option Addr} {vsL : Array Value} {slL : Array (Option Value)}
    (a0 : PySem.W.nsIn K mainGlobals "is_within" = some (some (.ref f0)))
    (l0 : K.lookup f0 = some ⟨oc0, od0, .func (PySem.W.fnOf "is_within" "is_within" (defArgs s_is_within) (defBody s_is_within) (defScope s_is_within) .none kV0 dc0 pm0 an0 cd0 ct0), sl0⟩)
    (c0 : PySem.W.codeIn K cd0 "is_within" = true) (k0 : PySem.W.keepIn K (.ref f0) = true)
    (a1 : PySem.W.nsIn K mainGlobals "is_name" = some (some (.ref f1)))
    (l1 : K.lookup f1 = some ⟨oc1, od1, .func (PySem.W.fnOf "is_name" "is_name" (defArgs s_is_name) (defBody s_is_name) (defScope s_is_name) .none kV1 dc1 pm1 an1 cd1 ct1), sl1⟩)
    (c1 : PySem.W.codeIn K cd1 "is_name" = true) (k1 : PySem.W.keepIn K (.ref f1) = true)
    (a2 : PySem.W.nsIn K mainGlobals "is_one" = some (some (.ref f2)))
    (l2 : K.lookup f2 = some ⟨oc2, od2, .func (PySem.W.fnOf "is_one" "is_one" (defArgs s_is_one) (defBody s_is_one) (defScope s_is_one) .none kV2 dc2 pm2 an2 cd2 ct2), sl2⟩)
    (c2 : PySem.W.codeIn K cd2 "is_one" = true) (k2 : PySem.W.keepIn K (.ref f2) = true)
    (a3 : PySem.W.nsIn K mainGlobals "are_folk" = some (some (.ref f3)))
    (l3 : K.lookup f3 = some ⟨oc3, od3, .func (PySem.W.fnOf "are_folk" "are_folk" (defArgs s_are_folk) (defBody s_are_folk) (defScope s_are_folk) .none kV3 dc3 pm3 an3 cd3 ct3), sl3⟩)
    (c3 : PySem.W.codeIn K cd3 "are_folk" = true) (k3 : PySem.W.keepIn K (.ref f3) = true)
    (a4 : PySem.W.nsIn K mainGlobals "suited" = some (some (.ref f4)))
    (l4 : K.lookup f4 = some ⟨oc4, od4, .func (PySem.W.fnOf "suited" "suited" (defArgs s_suited) (defBody s_suited) (defScope s_suited) .none kV4 dc4 pm4 an4 cd4 ct4), sl4⟩)
    (c4 : PySem.W.codeIn K cd4 "suited" = true) (k4 : PySem.W.keepIn K (.ref f4) = true)
    (a5 : PySem.W.nsIn K mainGlobals "settings" = some (some (.ref f5)))
    (l5 : K.lookup f5 = some ⟨oc5, od5, .func (PySem.W.fnOf "settings" "settings" (defArgs s_settings) (defBody s_settings) (defScope s_settings) .none kV5 dc5 pm5 an5 cd5 ct5), sl5⟩)
    (c5 : PySem.W.codeIn K cd5 "settings" = true) (k5 : PySem.W.keepIn K (.ref f5) = true)
    (a6 : PySem.W.nsIn K mainGlobals "turned" = some (some (.ref f6)))
    (l6 : K.lookup f6 = some ⟨oc6, od6, .func (PySem.W.fnOf "turned" "turned" (defArgs s_turned) (defBody s_turned) (defScope s_turned) .none kV6 dc6 pm6 an6 cd6 ct6), sl6⟩)
    (c6 : PySem.W.codeIn K cd6 "turned" = true) (k6 : PySem.W.keepIn K (.ref f6) = true)
    (a7 : PySem.W.nsIn K mainGlobals "two_numbers" = some (some (.ref f7)))
    (l7 : K.lookup f7 = some ⟨oc7, od7, .func (PySem.W.fnOf "two_numbers" "two_numbers" (defArgs s_two_numbers) (defBody s_two_numbers) (defScope s_two_numbers) .none kV7 dc7 pm7 an7 cd7 ct7), sl7⟩)
    (c7 : PySem.W.codeIn K cd7 "two_numbers" = true) (k7 : PySem.W.keepIn K (.ref f7) = true)
    (a8 : PySem.W.nsIn K mainGlobals "first_day" = some (some (.ref f8)))
    (l8 : K.lookup f8 = some ⟨oc8, od8, .func (PySem.W.fnOf "first_day" "first_day" (defArgs s_first_day) (defBody s_first_day) (defScope s_first_day) .none kV8 dc8 pm8 an8 cd8 ct8), sl8⟩)
    (c8 : PySem.W.codeIn K cd8 "first_day" = true) (k8 : PySem.W.keepIn K (.ref f8) = true)
    (a9 : PySem.W.nsIn K mainGlobals "far_setting" = some (some (.ref f9)))
    (l9 : K.lookup f9 = some ⟨oc9, od9, .func (PySem.W.fnOf "far_setting" "far_setting" (defArgs s_far_setting) (defBody s_far_setting) (defScope s_far_setting) .none kV9 dc9 pm9 an9 cd9 ct9), sl9⟩)
    (c9 : PySem.W.codeIn K cd9 "far_setting" = true) (k9 : PySem.W.keepIn K (.ref f9) = true)
    (a10 : PySem.W.nsIn K mainGlobals "each_day" = some (some (.ref f10)))
    (l10 : K.lookup f10 = some ⟨oc10, od10, .func (PySem.W.fnOf "each_day" "each_day" (defArgs s_each_day) (defBody s_each_day) (defScope s_each_day) .none kV10 dc10 pm10 an10 cd10 ct10), sl10⟩)
    (c10 : PySem.W.codeIn K cd10 "each_day" = true) (k10 : PySem.W.keepIn K (.ref f10) = true)
    (a11 : PySem.W.nsIn K mainGlobals "far_turned" = some (some (.ref f11)))
    (l11 : K.lookup f11 = some ⟨oc11, od11, .func (PySem.W.fnOf "far_turned" "far_turned" (defArgs s_far_turned) (defBody s_far_turned) (defScope s_far_turned) .none kV11 dc11 pm11 an11 cd11 ct11), sl11⟩)
    (c11 : PySem.W.codeIn K cd11 "far_turned" = true) (k11 : PySem.W.keepIn K (.ref f11) = true)
    (a12 : PySem.W.nsIn K mainGlobals "moves" = some (some (.ref f12)))
    (l12 : K.lookup f12 = some ⟨oc12, od12, .func (PySem.W.fnOf "moves" "moves" (defArgs s_moves) (defBody s_moves) (defScope s_moves) .none kV12 dc12 pm12 an12 cd12 ct12), sl12⟩)
    (c12 : PySem.W.codeIn K cd12 "moves" = true) (k12 : PySem.W.keepIn K (.ref f12) = true)
    (a13 : PySem.W.nsIn K mainGlobals "crossed" = some (some (.ref f13)))
    (l13 : K.lookup f13 = some ⟨oc13, od13, .func (PySem.W.fnOf "crossed" "crossed" (defArgs s_crossed) (defBody s_crossed) (defScope s_crossed) .none kV13 dc13 pm13 an13 cd13 ct13), sl13⟩)
    (c13 : PySem.W.codeIn K cd13 "crossed" = true) (k13 : PySem.W.keepIn K (.ref f13) = true)
    (a14 : PySem.W.nsIn K mainGlobals "shares" = some (some (.ref f14)))
    (l14 : K.lookup f14 = some ⟨oc14, od14, .func (PySem.W.fnOf "shares" "shares" (defArgs s_shares) (defBody s_shares) (defScope s_shares) .none kV14 dc14 pm14 an14 cd14 ct14), sl14⟩)
    (c14 : PySem.W.codeIn K cd14 "shares" = true) (k14 : PySem.W.keepIn K (.ref f14) = true)
    (a15 : PySem.W.nsIn K mainGlobals "names_of" = some (some (.ref f15)))
    (l15 : K.lookup f15 = some ⟨oc15, od15, .func (PySem.W.fnOf "names_of" "names_of" (defArgs s_names_of) (defBody s_names_of) (defScope s_names_of) .none kV15 dc15 pm15 an15 cd15 ct15), sl15⟩)
    (c15 : PySem.W.codeIn K cd15 "names_of" = true) (k15 : PySem.W.keepIn K (.ref f15) = true)
    (a16 : PySem.W.nsIn K mainGlobals "greatest_low" = some (some (.ref f16)))
    (l16 : K.lookup f16 = some ⟨oc16, od16, .func (PySem.W.fnOf "greatest_low" "greatest_low" (defArgs s_greatest_low) (defBody s_greatest_low) (defScope s_greatest_low) .none kV16 dc16 pm16 an16 cd16 ct16), sl16⟩)
    (c16 : PySem.W.codeIn K cd16 "greatest_low" = true) (k16 : PySem.W.keepIn K (.ref f16) = true)
    (a17 : PySem.W.nsIn K mainGlobals "least_high" = some (some (.ref f17)))
    (l17 : K.lookup f17 = some ⟨oc17, od17, .func (PySem.W.fnOf "least_high" "least_high" (defArgs s_least_high) (defBody s_least_high) (defScope s_least_high) .none kV17 dc17 pm17 an17 cd17 ct17), sl17⟩)
    (c17 : PySem.W.codeIn K cd17 "least_high" = true) (k17 : PySem.W.keepIn K (.ref f17) = true)
    (a18 : PySem.W.nsIn K mainGlobals "lesser_side" = some (some (.ref f18)))
    (l18 : K.lookup f18 = some ⟨oc18, od18, .func (PySem.W.fnOf "lesser_side" "lesser_side" (defArgs s_lesser_side) (defBody s_lesser_side) (defScope s_lesser_side) .none kV18 dc18 pm18 an18 cd18 ct18), sl18⟩)
    (c18 : PySem.W.codeIn K cd18 "lesser_side" = true) (k18 : PySem.W.keepIn K (.ref f18) = true)
    (a19 : PySem.W.nsIn K mainGlobals "most_crossed" = some (some (.ref f19)))
    (l19 : K.lookup f19 = some ⟨oc19, od19, .func (PySem.W.fnOf "most_crossed" "most_crossed" (defArgs s_most_crossed) (defBody s_most_crossed) (defScope s_most_crossed) .none kV19 dc19 pm19 an19 cd19 ct19), sl19⟩)
    (c19 : PySem.W.codeIn K cd19 "most_crossed" = true) (k19 : PySem.W.keepIn K (.ref f19) = true)
    (a20 : PySem.W.nsIn K mainGlobals "most" = some (some (.ref f20)))
    (l20 : K.lookup f20 = some ⟨oc20, od20, .func (PySem.W.fnOf "most" "most" (defArgs s_most) (defBody s_most) (defScope s_most) .none kV20 dc20 pm20 an20 cd20 ct20), sl20⟩)
    (c20 : PySem.W.codeIn K cd20 "most" = true) (k20 : PySem.W.keepIn K (.ref f20) = true)
    (a21 : PySem.W.nsIn K mainGlobals "least" = some (some (.ref f21)))
    (l21 : K.lookup f21 = some ⟨oc21, od21, .func (PySem.W.fnOf "least" "least" (defArgs s_least) (defBody s_least) (defScope s_least) .none kV21 dc21 pm21 an21 cd21 ct21), sl21⟩)
    (c21 : PySem.W.codeIn K cd21 "least" = true) (k21 : PySem.W.keepIn K (.ref f21) = true)
    (a22 : PySem.W.nsIn K mainGlobals "most_order" = some (some (.ref f22)))
    (l22 : K.lookup f22 = some ⟨oc22, od22, .func (PySem.W.fnOf "most_order" "most_order" (defArgs s_most_order) (defBody s_most_order) (defScope s_most_order) .none kV22 dc22 pm22 an22 (.ref cL) ct22), sl22⟩)
    (c22 : PySem.W.codeIn K (.ref cL) "most_order" = true) (k22 : PySem.W.keepIn K (.ref f22) = true)
    (a23 : PySem.W.nsIn K mainGlobals "least_order" = some (some (.ref f23)))
    (l23 : K.lookup f23 = some ⟨oc23, od23, .func (PySem.W.fnOf "least_order" "least_order" (defArgs s_least_order) (defBody s_least_order) (defScope s_least_order) .none kV23 dc23 pm23 an23 cd23 ct23), sl23⟩)
    (c23 : PySem.W.codeIn K cd23 "least_order" = true) (k23 : PySem.W.keepIn K (.ref f23) = true)
    (a24 : PySem.W.nsIn K mainGlobals "orders" = some (some (.ref f24)))
    (l24 : K.lookup f24 = some ⟨oc24, od24, .func (PySem.W.fnOf "orders" "orders" (defArgs s_orders) (defBody s_orders) (defScope s_orders) .none kV24 dc24 pm24 an24 cd24 ct24), sl24⟩)
    (c24 : PySem.W.codeIn K cd24 "orders" = true) (k24 : PySem.W.keepIn K (.ref f24) = true)
    (a25 : PySem.W.nsIn K mainGlobals "amounts" = some (some (.ref f25)))
    (l25 : K.lookup f25 = some ⟨oc25, od25, .func (PySem.W.fnOf "amounts" "amounts" (defArgs s_amounts) (defBody s_amounts) (defScope s_amounts) .none kV25 dc25 pm25 an25 cd25 ct25), sl25⟩)
    (c25 : PySem.W.codeIn K cd25 "amounts" = true) (k25 : PySem.W.keepIn K (.ref f25) = true)
    (a26 : PySem.W.nsIn K mainGlobals "most_by" = some (some (.ref f26)))
    (l26 : K.lookup f26 = some ⟨oc26, od26, .func (PySem.W.fnOf "most_by" "most_by" (defArgs s_most_by) (defBody s_most_by) (defScope s_most_by) .none kV26 dc26 pm26 an26 cd26 ct26), sl26⟩)
    (c26 : PySem.W.codeIn K cd26 "most_by" = true) (k26 : PySem.W.keepIn K (.ref f26) = true)
    (a27 : PySem.W.nsIn K mainGlobals "onlookers" = some (some (.ref f27)))
    (l27 : K.lookup f27 = some ⟨oc27, od27, .func (PySem.W.fnOf "onlookers" "onlookers" (defArgs s_onlookers) (defBody s_onlookers) (defScope s_onlookers) .none kV27 dc27 pm27 an27 cd27 ct27), sl27⟩)
    (c27 : PySem.W.codeIn K cd27 "onlookers" = true) (k27 : PySem.W.keepIn K (.ref f27) = true)
    (a28 : PySem.W.nsIn K mainGlobals "known" = some (some (.ref f28)))
    (l28 : K.lookup f28 = some ⟨oc28, od28, .func (PySem.W.fnOf "known" "known" (defArgs s_known) (defBody s_known) (defScope s_known) .none kV28 dc28 pm28 an28 cd28 ct28), sl28⟩)
    (c28 : PySem.W.codeIn K cd28 "known" = true) (k28 : PySem.W.keepIn K (.ref f28) = true)
    (a29 : PySem.W.nsIn K mainGlobals "suits_all" = some (some (.ref f29)))
    (l29 : K.lookup f29 = some ⟨oc29, od29, .func (PySem.W.fnOf "suits_all" "suits_all" (defArgs s_suits_all) (defBody s_suits_all) (defScope s_suits_all) .none kV29 dc29 pm29 an29 cd29 ct29), sl29⟩)
    (c29 : PySem.W.codeIn K cd29 "suits_all" = true) (k29 : PySem.W.keepIn K (.ref f29) = true)
    (a30 : PySem.W.nsIn K mainGlobals "at_home" = some (some (.ref f30)))
    (l30 : K.lookup f30 = some ⟨oc30, od30, .func (PySem.W.fnOf "at_home" "at_home" (defArgs s_at_home) (defBody s_at_home) (defScope s_at_home) .none kV30 dc30 pm30 an30 cd30 ct30), sl30⟩)
    (c30 : PySem.W.codeIn K cd30 "at_home" = true) (k30 : PySem.W.keepIn K (.ref f30) = true)
    (a31 : PySem.W.nsIn K mainGlobals "widened" = some (some (.ref f31)))
    (l31 : K.lookup f31 = some ⟨oc31, od31, .func (PySem.W.fnOf "widened" "widened" (defArgs s_widened) (defBody s_widened) (defScope s_widened) .none kV31 dc31 pm31 an31 cd31 ct31), sl31⟩)
    (c31 : PySem.W.codeIn K cd31 "widened" = true) (k31 : PySem.W.keepIn K (.ref f31) = true)
    (a32 : PySem.W.nsIn K mainGlobals "_law_draw" = some (some (.ref f32)))
    (l32 : K.lookup f32 = some ⟨oc32, od32, .func (PySem.W.fnOf "_law_draw" "_law_draw" (defArgs s__law_draw) (defBody s__law_draw) (defScope s__law_draw) .none kV32 dc32 pm32 an32 cd32 ct32), sl32⟩)
    (c32 : PySem.W.codeIn K cd32 "_law_draw" = true) (k32 : PySem.W.keepIn K (.ref f32) = true)
    (a33 : PySem.W.nsIn K mainGlobals "_law_like" = some (some (.ref f33)))
    (l33 : K.lookup f33 = some ⟨oc33, od33, .func (PySem.W.fnOf "_law_like" "_law_like" (defArgs s__law_like) (defBody s__law_like) (defScope s__law_like) .none kV33 dc33 pm33 an33 cd33 ct33), sl33⟩)
    (c33 : PySem.W.codeIn K cd33 "_law_like" = true) (k33 : PySem.W.keepIn K (.ref f33) = true)
    (a34 : PySem.W.nsIn K mainGlobals "_law_two_right" = some (some (.ref f34)))
    (l34 : K.lookup f34 = some ⟨oc34, od34, .func (PySem.W.fnOf "_law_two_right" "_law_two_right" (defArgs s__law_two_right) (defBody s__law_two_right) (defScope s__law_two_right) .none kV34 dc34 pm34 an34 cd34 ct34), sl34⟩)
    (c34 : PySem.W.codeIn K cd34 "_law_two_right" = true) (k34 : PySem.W.keepIn K (.ref f34) = true)
    (a35 : PySem.W.nsIn K mainGlobals "_law_three_right" = some (some (.ref f35)))
    (l35 : K.lookup f35 = some ⟨oc35, od35, .func (PySem.W.fnOf "_law_three_right" "_law_three_right" (defArgs s__law_three_right) (defBody s__law_three_right) (defScope s__law_three_right) .none kV35 dc35 pm35 an35 cd35 ct35), sl35⟩)
    (c35 : PySem.W.codeIn K cd35 "_law_three_right" = true) (k35 : PySem.W.keepIn K (.ref f35) = true)
    (a36 : PySem.W.nsIn K mainGlobals "_law_four_right" = some (some (.ref f36)))
    (l36 : K.lookup f36 = some ⟨oc36, od36, .func (PySem.W.fnOf "_law_four_right" "_law_four_right" (defArgs s__law_four_right) (defBody s__law_four_right) (defScope s__law_four_right) .none kV36 dc36 pm36 an36 cd36 ct36), sl36⟩)
    (c36 : PySem.W.codeIn K cd36 "_law_four_right" = true) (k36 : PySem.W.keepIn K (.ref f36) = true)
    (a37 : PySem.W.nsIn K mainGlobals "law" = some (some (.ref f37)))
    (l37 : K.lookup f37 = some ⟨oc37, od37, .func (PySem.W.fnOf "law" "law" (defArgs s_law) (defBody s_law) (defScope s_law) .none kV37 dc37 pm37 an37 cd37 ct37), sl37⟩)
    (c37 : PySem.W.codeIn K cd37 "law" = true) (k37 : PySem.W.keepIn K (.ref f37) = true)
    (lc : K.lookup cL = some ⟨eL, ddL, .fields vsL, slL⟩) (lv : vsL[11]? = some (.ref PL)) (ln : K.lookup PL = none)
    (z_abs : PySem.W.nsIn K mainGlobals "abs" = some none)
    (z_all : PySem.W.nsIn K mainGlobals "all" = some none)
    (z_bool : PySem.W.nsIn K mainGlobals "bool" = some none)
    (z_int : PySem.W.nsIn K mainGlobals "int" = some none)
    (z_isinstance : PySem.W.nsIn K mainGlobals "isinstance" = some none)
    (z_len : PySem.W.nsIn K mainGlobals "len" = some none)
    (z_list : PySem.W.nsIn K mainGlobals "list" = some none)
    (z_max : PySem.W.nsIn K mainGlobals "max" = some none)
    (z_min : PySem.W.nsIn K mainGlobals "min" = some none)
    (z_range : PySem.W.nsIn K mainGlobals "range" = some none)
    (z_sorted : PySem.W.nsIn K mainGlobals "sorted" = some none)
    (z_str : PySem.W.nsIn K mainGlobals "str" = some none)
    (z_sum : PySem.W.nsIn K mainGlobals "sum" = some none)
    (z_tuple : PySem.W.nsIn K mainGlobals "tuple" = some none)
    (z_zip : PySem.W.nsIn K mainGlobals "zip" = some none)
    {t_LETTERS : Tok} (y_LETTERS : PySem.W.nsIn K mainGlobals "LETTERS" = some (some (.str ("abcdefghijklmnopqrstuvwxyz" : Str) t_LETTERS)))
    {t_MOST_FOLK : Tok} (y_MOST_FOLK : PySem.W.nsIn K mainGlobals "MOST_FOLK" = some (some (.int 6 t_MOST_FOLK)))
    {t_TOP : Tok} (y_TOP : PySem.W.nsIn K mainGlobals "TOP" = some (some (.int 40 t_TOP)))
    (hp : ∀ ns : List Int, ns.length ≤ 63 → ∃ τ, bl (callK tb 40) (lawE 5) ⟨ns, 0, 0⟩ = some (.rt (.sh (.bool true)), τ)) :
    LamX.LawAtS l w K CX0 41 63 "script" mg fa h := by
  have e := hfa.symm.trans (PySem.W.mg_of X G a37)
  cases e
  have B : Bn mg := ⟨PySem.W.mg_none_of X G z_abs, PySem.W.mg_none_of X G z_all, PySem.W.mg_none_of X G z_bool, PySem.W.mg_none_of X G z_int, PySem.W.mg_none_of X G z_isinstance, PySem.W.mg_none_of X G z_len, PySem.W.mg_none_of X G z_list, PySem.W.mg_none_of X G z_max, PySem.W.mg_none_of X G z_min, PySem.W.mg_none_of X G z_range, PySem.W.mg_none_of X G z_sorted, PySem.W.mg_none_of X G z_str, PySem.W.mg_none_of X G z_sum, PySem.W.mg_none_of X G z_tuple, PySem.W.mg_none_of X G z_zip, ⟨_, PySem.W.mg_of X G y_LETTERS⟩, ⟨_, PySem.W.mg_of X G y_MOST_FOLK⟩, ⟨_, PySem.W.mg_of X G y_TOP⟩⟩
  letI T1 : Tbl := ⟨[(PL, ("most_order" : Str) ++ ".<locals>." ++ "<lambda>")]⟩
  have F : Fds K mg cL := ⟨(fd_mk X G a0 l0 c0 k0 fun _ _ _ _ _ _ us hl => match us, hl with | [_, _, _], _ => rfl), (fd_mk X G a1 l1 c1 k1 fun _ _ _ _ _ _ us hl => match us, hl with | [_], _ => rfl), (fd_mk X G a2 l2 c2 k2 fun _ _ _ _ _ _ us hl => match us, hl with | [_], _ => rfl), (fd_mk X G a3 l3 c3 k3 fun _ _ _ _ _ _ us hl => match us, hl with | [_], _ => rfl), (fd_mk X G a4 l4 c4 k4 fun _ _ _ _ _ _ us hl => match us, hl with | [_, _], _ => rfl), (fd_mk X G a5 l5 c5 k5 fun _ _ _ _ _ _ us hl => match us, hl with | [_, _, _], _ => rfl), (fd_mk X G a6 l6 c6 k6 fun _ _ _ _ _ _ us hl => match us, hl with | [_, _, _], _ => rfl), (fd_mk X G a7 l7 c7 k7 fun _ _ _ _ _ _ us hl => match us, hl with | [_, _], _ => rfl), (fd_mk X G a8 l8 c8 k8 fun _ _ _ _ _ _ us hl => match us, hl with | [_, _, _], _ => rfl), (fd_mk X G a9 l9 c9 k9 fun _ _ _ _ _ _ us hl => match us, hl with | [_, _, _, _], _ => rfl), (fd_mk X G a10 l10 c10 k10 fun _ _ _ _ _ _ us hl => match us, hl with | [_, _], _ => rfl), (fd_mk X G a11 l11 c11 k11 fun _ _ _ _ _ _ us hl => match us, hl with | [_, _, _, _], _ => rfl), (fd_mk X G a12 l12 c12 k12 fun _ _ _ _ _ _ us hl => match us, hl with | [_, _], _ => rfl), (fd_mk X G a13 l13 c13 k13 fun _ _ _ _ _ _ us hl => match us, hl with | [_, _], _ => rfl), (fd_mk X G a14 l14 c14 k14 fun _ _ _ _ _ _ us hl => match us, hl with | [_, _], _ => rfl), (fd_mk X G a15 l15 c15 k15 fun _ _ _ _ _ _ us hl => match us, hl with | [_], _ => rfl), (fd_mk X G a16 l16 c16 k16 fun _ _ _ _ _ _ us hl => match us, hl with | [_], _ => rfl), (fd_mk X G a17 l17 c17 k17 fun _ _ _ _ _ _ us hl => match us, hl with | [_], _ => rfl), (fd_mk X G a18 l18 c18 k18 fun _ _ _ _ _ _ us hl => match us, hl with | [_, _], _ => rfl), (fd_mk X G a19 l19 c19 k19 fun _ _ _ _ _ _ us hl => match us, hl with | [_], _ => rfl), (fd_mk X G a20 l20 c20 k20 fun _ _ _ _ _ _ us hl => match us, hl with | [_], _ => rfl), (fd_mk X G a21 l21 c21 k21 fun _ _ _ _ _ _ us hl => match us, hl with | [_], _ => rfl), (fdc_mk X G a22 l22 c22 k22 fun _ _ _ _ _ _ us hl => match us, hl with | [_], _ => rfl), (fd_mk X G a23 l23 c23 k23 fun _ _ _ _ _ _ us hl => match us, hl with | [_], _ => rfl), (fd_mk X G a24 l24 c24 k24 fun _ _ _ _ _ _ us hl => match us, hl with | [_], _ => rfl), (fd_mk X G a25 l25 c25 k25 fun _ _ _ _ _ _ us hl => match us, hl with | [_], _ => rfl), (fd_mk X G a26 l26 c26 k26 fun _ _ _ _ _ _ us hl => match us, hl with | [_, _], _ => rfl), (fd_mk X G a27 l27 c27 k27 fun _ _ _ _ _ _ us hl => match us, hl with | [_], _ => rfl), (fd_mk X G a28 l28 c28 k28 fun _ _ _ _ _ _ us hl => match us, hl with | [_], _ => rfl), (fd_mk X G a29 l29 c29 k29 fun _ _ _ _ _ _ us hl => match us, hl with | [_], _ => rfl), (fd_mk X G a30 l30 c30 k30 fun _ _ _ _ _ _ us hl => match us, hl with | [_], _ => rfl), (fd_mk X G a31 l31 c31 k31 fun _ _ _ _ _ _ us hl => match us, hl with | [_], _ => rfl), (fd_mk X G a32 l32 c32 k32 fun _ _ _ _ _ _ us hl => match us, hl with | [_, _], _ => rfl), (fd_mk X G a33 l33 c33 k33 fun _ _ _ _ _ _ us hl => match us, hl with | [_, _], _ => rfl), (fd_mk X G a34 l34 c34 k34 fun _ _ _ _ _ _ us hl => match us, hl with | [_], _ => rfl), (fd_mk X G a35 l35 c35 k35 fun _ _ _ _ _ _ us hl => match us, hl with | [_, _, _], _ => rfl), (fd_mk X G a36 l36 c36 k36 fun _ _ _ _ _ _ us hl => match us, hl with | [_], _ => rfl), (kw_mk X G a3 l3 rfl fun _ _ _ _ _ _ us hl => match us, hl with | [_], _ => rfl), (kw_mk X G a5 l5 rfl fun _ _ _ _ _ _ us hl => match us, hl with | [_, _, _], _ => rfl), (kw_mk X G a6 l6 rfl fun _ _ _ _ _ _ us hl => match us, hl with | [_, _, _], _ => rfl), (kw_mk X G a7 l7 rfl fun _ _ _ _ _ _ us hl => match us, hl with | [_, _], _ => rfl), (kw_mk X G a9 l9 rfl fun _ _ _ _ _ _ us hl => match us, hl with | [_, _, _, _], _ => rfl), (kw_mk X G a10 l10 rfl fun _ _ _ _ _ _ us hl => match us, hl with | [_, _], _ => rfl), (kw_mk X G a11 l11 rfl fun _ _ _ _ _ _ us hl => match us, hl with | [_, _, _, _], _ => rfl), (kw_mk X G a13 l13 rfl fun _ _ _ _ _ _ us hl => match us, hl with | [_, _], _ => rfl), (kw_mk X G a14 l14 rfl fun _ _ _ _ _ _ us hl => match us, hl with | [_, _], _ => rfl), (kw_mk X G a19 l19 rfl fun _ _ _ _ _ _ us hl => match us, hl with | [_], _ => rfl), (kw_mk X G a20 l20 rfl fun _ _ _ _ _ _ us hl => match us, hl with | [_], _ => rfl), (kw_mk X G a21 l21 rfl fun _ _ _ _ _ _ us hl => match us, hl with | [_], _ => rfl), (kw_mk X G a22 l22 rfl fun _ _ _ _ _ _ us hl => match us, hl with | [_], _ => rfl), (kw_mk X G a23 l23 rfl fun _ _ _ _ _ _ us hl => match us, hl with | [_], _ => rfl), (kw_mk X G a25 l25 rfl fun _ _ _ _ _ _ us hl => match us, hl with | [_], _ => rfl), (kw_mk X G a26 l26 rfl fun _ _ _ _ _ _ us hl => match us, hl with | [_, _], _ => rfl), (kw_mk X G a27 l27 rfl fun _ _ _ _ _ _ us hl => match us, hl with | [_], _ => rfl), (kw_mk X G a28 l28 rfl fun _ _ _ _ _ _ us hl => match us, hl with | [_], _ => rfl), (kw_mk X G a29 l29 rfl fun _ _ _ _ _ _ us hl => match us, hl with | [_], _ => rfl), (kw_mk X G a30 l30 rfl fun _ _ _ _ _ _ us hl => match us, hl with | [_], _ => rfl), (kw_mk X G a31 l31 rfl fun _ _ _ _ _ _ us hl => match us, hl with | [_], _ => rfl)⟩
  obtain ⟨PX, hd, hp0⟩ := own "most_order" (List.mem_singleton.mpr rfl) f22 cL _ _ (PySem.W.mg_of X G a22) (X _ _ l22) rfl rfl
  have eP : PX = PL := by
    obtain ⟨oc, vs, _, _, _, _, _, _, _, e1, _, e3, e4, _⟩ := hd
    have g2 := X _ _ lc
    rw [g2] at e1; cases e1; cases e3
    rw [lv] at e4; cases e4; rfl
  subst eP
  exact ⟨PySem.W.fnOf "law" "law" (defArgs s_law) (defBody s_law) (defScope s_law) .none kV37 dc37 pm37 an37 cd37 ct37, [(cL, PX)], spLaw K, fun p h => by rw [List.mem_singleton.mp h]; exact hp0, fun p h => by rw [List.mem_singleton.mp h]; exact ln, fun p h => by rw [List.mem_singleton.mp h]; exact hd, fun s v => .of_eq rfl, fun H a ns hl _ ht hS => ⟨a, ns, rfl, hS, hl, tabs_start rfl (ht _ (List.mem_singleton.mpr rfl)), fun _ => rfl⟩, fun base _ _ tbs => ok_law (fun_mk l37 c37 k37) B (all_k F B ⟨tbs (cL, PX) (List.mem_singleton.mpr rfl), rfl⟩ 40) hp⟩
end Pv
open PySem PyProof.Rows PySem.W
set_option maxHeartbeats 0 in
theorem PySem.Challenge.cw_warmwheel_k11_written_cases_and_names_holds : PySem.Challenge.rw_warmwheel_k11_written_cases_and_names.Holds := by
  w_on
  o_law
  k_head
  (case hw => w_witness2)
  k_fill
  refine Pv.walk_many (l := PySem.Challenge.rw_warmwheel_k11_written_cases_and_names) (n := 63) (k := 41) (x := "script") ["most_order"] rfl (by decide) rfl ⟨rfl, by decide, by decide⟩ (by intro y hy; rw [List.mem_singleton.mp hy]; first | rfl | decide +kernel) (fun w h Y => PySem.W.km_in_of Y) ?F
  case F =>
    intro w mg fa h KX G hmg own
    refine' Pv.all_mk KX G hmg own ?a0 ?l0 ?c0 ?k0 ?a1 ?l1 ?c1 ?k1 ?a2 ?l2 ?c2 ?k2 ?a3 ?l3 ?c3 ?k3 ?a4 ?l4 ?c4 ?k4 ?a5 ?l5 ?c5 ?k5 ?a6 ?l6 ?c6 ?k6 ?a7 ?l7 ?c7 ?k7 ?a8 ?l8 ?c8 ?k8 ?a9 ?l9 ?c9 ?k9 ?a10 ?l10 ?c10 ?k10 ?a11 ?l11 ?c11 ?k11 ?a12 ?l12 ?c12 ?k12 ?a13 ?l13 ?c13 ?k13 ?a14 ?l14 ?c14 ?k14 ?a15 ?l15 ?c15 ?k15 ?a16 ?l16 ?c16 ?k16 ?a17 ?l17 ?c17 ?k17 ?a18 ?l18 ?c18 ?k18 ?a19 ?l19 ?c19 ?k19 ?a20 ?l20 ?c20 ?k20 ?a21 ?l21 ?c21 ?k21 ?a22 ?l22 ?c22 ?k22 ?a23 ?l23 ?c23 ?k23 ?a24 ?l24 ?c24 ?k24 ?a25 ?l25 ?c25 ?k25 ?a26 ?l26 ?c26 ?k26 ?a27 ?l27 ?c27 ?k27 ?a28 ?l28 ?c28 ?k28 ?a29 ?l29 ?c29 ?k29 ?a30 ?l30 ?c30 ?k30 ?a31 ?l31 ?c31 ?k31 ?a32 ?l32 ?c32 ?k32 ?a33 ?l33 ?c33 ?k33 ?a34 ?l34 ?c34 ?k34 ?a35 ?l35 ?c35 ?k35 ?a36 ?l36 ?c36 ?k36 ?a37 ?l37 ?c37 ?k37 ?lc ?lv ?ln ?z_abs ?z_all ?z_bool ?z_int ?z_isinstance ?z_len ?z_list ?z_max ?z_min ?z_range ?z_sorted ?z_str ?z_sum ?z_tuple ?z_zip ?y_LETTERS ?y_MOST_FOLK ?y_TOP Pv.law_pure
    (case a0 => k_is); (case l0 => k_is); (case c0 => k_is); (case k0 => k_is); (case a1 => k_is); (case l1 => k_is); (case c1 => k_is); (case k1 => k_is); (case a2 => k_is); (case l2 => k_is); (case c2 => k_is); (case k2 => k_is); (case a3 => k_is); (case l3 => k_is); (case c3 => k_is); (case k3 => k_is); (case a4 => k_is); (case l4 => k_is); (case c4 => k_is); (case k4 => k_is); (case a5 => k_is); (case l5 => k_is); (case c5 => k_is); (case k5 => k_is); (case a6 => k_is); (case l6 => k_is); (case c6 => k_is); (case k6 => k_is); (case a7 => k_is); (case l7 => k_is); (case c7 => k_is); (case k7 => k_is); (case a8 => k_is); (case l8 => k_is); (case c8 => k_is); (case k8 => k_is); (case a9 => k_is); (case l9 => k_is); (case c9 => k_is); (case k9 => k_is); (case a10 => k_is); (case l10 => k_is); (case c10 => k_is); (case k10 => k_is); (case a11 => k_is); (case l11 => k_is); (case c11 => k_is); (case k11 => k_is); (case a12 => k_is); (case l12 => k_is); (case c12 => k_is); (case k12 => k_is); (case a13 => k_is); (case l13 => k_is); (case c13 => k_is); (case k13 => k_is); (case a14 => k_is); (case l14 => k_is); (case c14 => k_is); (case k14 => k_is); (case a15 => k_is); (case l15 => k_is); (case c15 => k_is); (case k15 => k_is); (case a16 => k_is); (case l16 => k_is); (case c16 => k_is); (case k16 => k_is); (case a17 => k_is); (case l17 => k_is); (case c17 => k_is); (case k17 => k_is); (case a18 => k_is); (case l18 => k_is); (case c18 => k_is); (case k18 => k_is); (case a19 => k_is); (case l19 => k_is); (case c19 => k_is); (case k19 => k_is); (case a20 => k_is); (case l20 => k_is); (case c20 => k_is); (case k20 => k_is); (case a21 => k_is); (case l21 => k_is); (case c21 => k_is); (case k21 => k_is); (case a22 => k_is); (case l22 => k_is); (case c22 => k_is); (case k22 => k_is); (case a23 => k_is); (case l23 => k_is); (case c23 => k_is); (case k23 => k_is); (case a24 => k_is); (case l24 => k_is); (case c24 => k_is); (case k24 => k_is); (case a25 => k_is); (case l25 => k_is); (case c25 => k_is); (case k25 => k_is); (case a26 => k_is); (case l26 => k_is); (case c26 => k_is); (case k26 => k_is); (case a27 => k_is); (case l27 => k_is); (case c27 => k_is); (case k27 => k_is); (case a28 => k_is); (case l28 => k_is); (case c28 => k_is); (case k28 => k_is); (case a29 => k_is); (case l29 => k_is); (case c29 => k_is); (case k29 => k_is); (case a30 => k_is); (case l30 => k_is); (case c30 => k_is); (case k30 => k_is); (case a31 => k_is); (case l31 => k_is); (case c31 => k_is); (case k31 => k_is); (case a32 => k_is); (case l32 => k_is); (case c32 => k_is); (case k32 => k_is); (case a33 => k_is); (case l33 => k_is); (case c33 => k_is); (case k33 => k_is); (case a34 => k_is); (case l34 => k_is); (case c34 => k_is); (case k34 => k_is); (case a35 => k_is); (case l35 => k_is); (case c35 => k_is); (case k35 => k_is); (case a36 => k_is); (case l36 => k_is); (case c36 => k_is); (case k36 => k_is); (case a37 => k_is); (case l37 => k_is); (case c37 => k_is); (case k37 => k_is); (case lc => k_is); (case lv => rfl); (case ln => kernel_rfl); (case z_abs => k_is); (case z_all => k_is); (case z_bool => k_is); (case z_int => k_is); (case z_isinstance => k_is); (case z_len => k_is); (case z_list => k_is); (case z_max => k_is); (case z_min => k_is); (case z_range => k_is); (case z_sorted => k_is); (case z_str => k_is); (case z_sum => k_is); (case z_tuple => k_is); (case z_zip => k_is); (case y_LETTERS => k_is); (case y_MOST_FOLK => k_is); (case y_TOP => k_is)
