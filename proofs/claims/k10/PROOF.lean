import PyProof.Rows.All
import Wide.All
import OpenK.AllK
import Wide.FinOn
import HandS.ForMost
import HandS.Wide
import HandS.TupAny
import HandS.TupMul
import KE.DataEq
import KE.LtData
import KE.DataMinMax
import KE.SortData
import HandS.Text
import HandS.IsInst
import HandS.Conv
import PyProof.Transfer
import PyProof.TupleOfSeq
import HandS.Walk
import HandS.More
import HandS.Dict
import HandS.DictComp
import HandS.WordsDict
import HandS.Zip
import KE.GoesEnum
import KE.GoesMore
import HandS.Style
import HandS.Ends
import KE.KRevSl
import PyProof.MaxThree
import KE.DatumOrd
import PySem.Challenge.RW_warmwheel_k10_whole_scale_turned_and_fol
set_option Elab.async false
set_option linter.all false
set_option maxRecDepth 100000
set_option autoImplicit false
namespace Pv
open PySem L2 PySem.Spec PyProof.Rows
abbrev D := PyData
/-- what a name holds: a datum that is shared (read only from then on), a list of one's own, a dict of one's own (int and text keys; tuple keys), the tape -/
inductive Vl where
  | sh (d : D) | ow (xs : List D) | dk (kvs : List (Key × D)) | dt (kvs : List (List Key × D)) | tp
/-- the tape: the script, the place, the cell -/
structure Tp where
  sc : List Int
  pos : Int
  cell : Int
abbrev Sl := L2.St
abbrev Ev := List (Option Vl)
mutual
inductive Rp (H : Hp) : V → D → Prop
  | non : Rp H .non .none
  | bl (b : Bool) : Rp H (.bl b) (.bool b)
  | int (i : Int) : Rp H (.int i) (.int i)
  | str (x : Str) : Rp H (.str x) (.str x)
  | lst {a : Addr} {xs : List V} {ds : List D} : H a = some (.lst xs) → xs.length ≤ sizeLine → Rps H xs ds → Rp H (.ref a) (.list ds)
  | tup {a : Addr} {xs : List V} {ds : List D} : H a = some (.tup xs) → xs.length ≤ sizeLine → Rps H xs ds → Rp H (.ref a) (.tuple ds)
inductive Rps (H : Hp) : List V → List D → Prop
  | nil : Rps H [] []
  | cons {v : V} {vs : List V} {d : D} {ds : List D} : Rp H v d → Rps H vs ds → Rps H (v :: vs) (d :: ds)
end
mutual
theorem Rp.mono {H H' : Hp} (s : Same H H') : ∀ (d : D) (v : V), Rp H v d → Rp H' v d
  | .none, _, h => by cases h; exact .non
  | .bool b, _, h => by cases h; exact .bl b
  | .int i, _, h => by cases h; exact .int i
  | .str x, _, h => by cases h; exact .str x
  | .list ds, _, h => by
    cases h with
    | lst h1 h2 h3 => exact .lst (s _ _ h1) h2 (Rps.mono s ds _ h3)
  | .tuple ds, _, h => by
    cases h with
    | tup h1 h2 h3 => exact .tup (s _ _ h1) h2 (Rps.mono s ds _ h3)
  | .dict _, _, h => by cases h
theorem Rps.mono {H H' : Hp} (s : Same H H') : ∀ (ds : List D) (vs : List V), Rps H vs ds → Rps H' vs ds
  | [], _, h => by cases h; exact .nil
  | d :: ds, _, h => by
    cases h with
    | cons h1 h2 => exact .cons (Rp.mono s d _ h1) (Rps.mono s ds _ h2)
end
theorem Rp.to {H H' : Hp} {v : V} {d : D} (h : Rp H v d) (s : Same H H') : Rp H' v d := Rp.mono s d v h
theorem Rps.to {H H' : Hp} {v : List V} {d : List D} (h : Rps H v d) (s : Same H H') : Rps H' v d := Rps.mono s d v h
mutual
theorem Rp.dp {K : PySem.W.Frag} {H : Hp} : ∀ (d : D) (v : V), Rp H v d → Dp K H v d
  | .none, _, h => by cases h; exact .non
  | .bool b, _, h => by cases h; exact .bl b
  | .int i, _, h => by cases h; exact .int i
  | .str x, _, h => by cases h; exact .str x
  | .list ds, _, h => by
    cases h with
    | lst h1 h2 h3 => exact .lst (.of h1) (Rps.dp ds _ h3)
  | .tuple ds, _, h => by
    cases h with
    | tup h1 h2 h3 => exact .tup (.of h1) (Rps.dp ds _ h3)
  | .dict _, _, h => by cases h
theorem Rps.dp {K : PySem.W.Frag} {H : Hp} : ∀ (ds : List D) (vs : List V), Rps H vs ds → DpAll K H vs ds
  | [], _, h => by cases h; exact .nil
  | d :: ds, _, h => by
    cases h with
    | cons h1 h2 => exact .cons (Rp.dp d _ h1) (Rps.dp ds _ h2)
end
mutual
/-- no dict within -/
def pln : D → Bool
  | .none => true | .bool _ => true | .int _ => true | .str _ => true
  | .list xs => plns xs | .tuple xs => plns xs
  | .dict _ => false
def plns : List D → Bool
  | [] => true
  | x :: xs => pln x && plns xs
end
theorem Rps.len {H : Hp} : ∀ {vs : List V} {ds : List D}, Rps H vs ds → vs.length = ds.length
  | [], [], _ => rfl
  | _ :: vs, _ :: ds, h => by
    cases h with
    | cons _ h => rw [List.length_cons, List.length_cons, Rps.len h]
  | [], _ :: _, h => by cases h
  | _ :: _, [], h => by cases h
theorem Rps.get {H : Hp} : ∀ {vs : List V} {ds : List D} {i : Nat} {d : D}, Rps H vs ds → ds[i]? = some d → ∃ v, vs[i]? = some v ∧ Rp H v d
  | _, [], _, _, _, e => by simp at e
  | [], _ :: _, _, _, h, _ => by cases h
  | v :: vs, x :: ds, 0, d, h, e => by
    cases h with
    | cons h1 h2 => simp at e; subst e; exact ⟨v, rfl, h1⟩
  | v :: vs, x :: ds, i + 1, d, h, e => by
    cases h with
    | cons h1 h2 =>
      obtain ⟨w, e1, r⟩ := Rps.get (i := i) (d := d) h2 (by simpa using e)
      exact ⟨w, by simpa using e1, r⟩
theorem Rps.get' {H : Hp} {vs : List V} {ds : List D} {i : Nat} {v : V} (h : Rps H vs ds) (e : vs[i]? = some v) : ∃ d, ds[i]? = some d ∧ Rp H v d := by
  have hl := h.len
  have hi : i < vs.length := (List.getElem?_eq_some_iff.mp e).1
  have hd : ds[i]? = some (ds[i]'(by omega)) := List.getElem?_eq_getElem (by omega)
  obtain ⟨w, e1, r⟩ := h.get hd
  rw [e] at e1; cases e1
  exact ⟨_, hd, r⟩
theorem Rps.app {H : Hp} : ∀ {vs ws : List V} {ds es : List D}, Rps H vs ds → Rps H ws es → Rps H (vs ++ ws) (ds ++ es)
  | [], _, [], _, _, h => h
  | _ :: vs, _, _ :: ds, _, h, k => by
    cases h with
    | cons h1 h2 => exact .cons h1 (Rps.app h2 k)
  | [], _, _ :: _, _, h, _ => by cases h
  | _ :: _, _, [], _, h, _ => by cases h
theorem Rps.snoc {H : Hp} {vs : List V} {ds : List D} {v : V} {d : D} (h : Rps H vs ds) (k : Rp H v d) : Rps H (vs ++ [v]) (ds ++ [d]) := h.app (.cons k .nil)
theorem Rps.take {H : Hp} : ∀ {vs : List V} {ds : List D} (n : Nat), Rps H vs ds → Rps H (vs.take n) (ds.take n)
  | _, _, 0, _ => by simp; exact .nil
  | [], [], n + 1, _ => by simp; exact .nil
  | v :: vs, d :: ds, n + 1, h => by
    cases h with
    | cons h1 h2 => exact .cons h1 (Rps.take n h2)
  | [], _ :: _, _ + 1, h => by cases h
  | _ :: _, [], _ + 1, h => by cases h
theorem Rps.drop {H : Hp} : ∀ {vs : List V} {ds : List D} (n : Nat), Rps H vs ds → Rps H (vs.drop n) (ds.drop n)
  | _, _, 0, h => h
  | [], [], n + 1, _ => by simp; exact .nil
  | v :: vs, d :: ds, n + 1, h => by
    cases h with
    | cons h1 h2 => exact Rps.drop n h2
  | [], _ :: _, _ + 1, h => by cases h
  | _ :: _, [], _ + 1, h => by cases h
theorem Rps.rev {H : Hp} : ∀ {vs : List V} {ds : List D}, Rps H vs ds → Rps H vs.reverse ds.reverse
  | [], [], _ => .nil
  | v :: vs, d :: ds, h => by
    cases h with
    | cons h1 h2 => rw [List.reverse_cons, List.reverse_cons]; exact (Rps.rev h2).snoc h1
  | [], _ :: _, h => by cases h
  | _ :: _, [], h => by cases h
theorem Rps.set {H : Hp} {v : V} {d : D} (k : Rp H v d) : ∀ {vs : List V} {ds : List D} (i : Nat), Rps H vs ds → Rps H (vs.set i v) (ds.set i d)
  | [], [], _, _ => .nil
  | _ :: _, _ :: _, 0, h => by
    cases h with
    | cons h1 h2 => exact .cons k h2
  | _ :: _, _ :: _, i + 1, h => by
    cases h with
    | cons h1 h2 => exact .cons h1 (Rps.set k i h2)
  | [], _ :: _, _, h => by cases h
  | _ :: _, [], _, h => by cases h
theorem Rps.erase {H : Hp} : ∀ {vs : List V} {ds : List D} (i : Nat), Rps H vs ds → Rps H (vs.eraseIdx i) (ds.eraseIdx i)
  | [], [], _, _ => .nil
  | _ :: _, _ :: _, 0, h => by
    cases h with
    | cons h1 h2 => exact h2
  | _ :: _, _ :: _, i + 1, h => by
    cases h with
    | cons h1 h2 => exact .cons h1 (Rps.erase i h2)
  | [], _ :: _, _, h => by cases h
  | _ :: _, [], _, h => by cases h
theorem Rps.ins {H : Hp} {v : V} {d : D} (k : Rp H v d) {vs : List V} {ds : List D} (i : Nat) (h : Rps H vs ds) : Rps H (vs.take i ++ v :: vs.drop i) (ds.take i ++ d :: ds.drop i) :=
  (h.take i).app (.cons k (h.drop i))
theorem Rps.dropLast {H : Hp} {vs : List V} {ds : List D} (h : Rps H vs ds) : Rps H vs.dropLast ds.dropLast := by
  rw [List.dropLast_eq_take, List.dropLast_eq_take, h.len]
  exact h.take _
theorem Rps.ints {H : Hp} : ∀ ns : List Int, Rps H (ns.map V.int) (ns.map PyData.int)
  | [] => .nil
  | n :: ns => .cons (.int n) (Rps.ints ns)
theorem Rps.to_ints {H : Hp} : ∀ {ns : List Int} {vs : List V}, Rps H vs (ns.map PyData.int) → vs = ns.map V.int
  | [], _, h => by cases h; rfl
  | n :: ns, _, h => by
    cases h with
    | cons h1 h2 =>
      cases h1
      rw [Rps.to_ints h2]; rfl
theorem Rps.to_bls {H : Hp} : ∀ {ns : List Bool} {vs : List V}, Rps H vs (ns.map PyData.bool) → vs = ns.map V.bl
  | [], _, h => by cases h; rfl
  | n :: ns, _, h => by
    cases h with
    | cons h1 h2 =>
      cases h1
      rw [Rps.to_bls h2]; rfl
/-- keys and values -/
abbrev Kps {κ : Type} (H : Hp) : List (κ × V) → List (κ × D) → Prop := Paired fun p q => p.1 = q.1 ∧ Rp H p.2 q.2
theorem Kps.to {κ : Type} {H H' : Hp} {a : List (κ × V)} {b : List (κ × D)} (h : Kps H a b) (s : Same H H') : Kps H' a b := Paired.mapP h fun _ _ x => ⟨x.1, x.2.to s⟩
/-- w stands for v: shared data in Hs alone, one's own list or dict in H, its items in Hs -/
def RepV (aT : Addr) (Hs H : Hp) (w : V) : Vl → Prop
  | .sh d => Rp Hs w d
  | .ow ds => ∃ p xs, w = .ref p ∧ p ≠ aT ∧ Hs p = none ∧ H p = some (.lst xs) ∧ xs.length ≤ sizeLine ∧ Rps Hs xs ds
  | .dk kvs => ∃ p kv, w = .ref p ∧ p ≠ aT ∧ Hs p = none ∧ H p = some (.dK kv) ∧ Kps Hs kv kvs
  | .dt kvs => ∃ p kv, w = .ref p ∧ p ≠ aT ∧ Hs p = none ∧ H p = some (.dT kv) ∧ Kps Hs kv kvs
  | .tp => w = .ref aT
def Vl.own : Vl → Bool
  | .ow _ => true | .dk _ => true | .dt _ => true | _ => false
/-- a def's run: the heaps at its entry, the tape's list, the script's copy -/
structure G where
  H0 : Hp
  Hs0 : Hp
  aT : Addr
  aS : Addr
structure TpOk (g : G) (Hs H : Hp) (τ : Tp) : Prop where
  h : H g.aT = some (.lst [.ref g.aS, .int τ.pos, .int τ.cell])
  n : Hs g.aT = none
  s : Hs g.aS = some (.lst (τ.sc.map V.int))
  l : τ.sc.length ≤ 63
/-- how an expression may change the heaps -/
structure Up (g : G) (Hs H Hs' H' : Hp) (τ' : Tp) : Prop where
  s : Same Hs Hs'
  h : ∀ b o, H b = some o → b ≠ g.aT → H' b = some o
  f : ∀ b o, Hs' b = some o → Hs b = none → H b = none
  le : Same Hs' H'
  tp : TpOk g Hs' H' τ'
structure Rel (g : G) (Hs H : Hp) (σ : Sl) (env : Ev) (τ : Tp) : Prop where
  le : Same Hs H
  tp : TpOk g Hs H τ
  ls : Same g.Hs0 Hs
  bs : ∀ b o, g.H0 b = some o → b ≠ g.aT → H b = some o
  fr : ∀ b o, Hs b = some o → g.Hs0 b = none → g.H0 b = none
  sl : ∀ (i : Nat) (v : Vl), env[i]? = some (some v) → ∃ w, σ[i]? = some (some w) ∧ RepV g.aT Hs H w v
  ow : ∀ (i : Nat) (v : Vl) (p : Addr), env[i]? = some (some v) → v.own = true → σ[i]? = some (some (.ref p)) → g.H0 p = none
  ap : ∀ (i j : Nat) (v v' : Vl) (p : Addr), env[i]? = some (some v) → env[j]? = some (some v') → v.own = true → v'.own = true → σ[i]? = some (some (.ref p)) → σ[j]? = some (some (.ref p)) → i = j
  ln : env.length = σ.length
section
variable {g : G} {Hs H Hs' H' Hs1 H1 Hs2 H2 : Hp} {σ : Sl} {env : Ev} {τ τ' τ1 τ2 : Tp} {w : V} {v : Vl}
theorem Rel.up0 (r : Rel g Hs H σ env τ) : Up g Hs H Hs H τ := ⟨.refl _, fun _ _ h _ => h, fun b o h n => (by rw [n] at h; cases h), r.le, r.tp⟩
theorem Up.trans (a : Up g Hs H Hs1 H1 τ1) (b : Up g Hs1 H1 Hs2 H2 τ2) : Up g Hs H Hs2 H2 τ2 where
  s := a.s.trans b.s
  h := fun c o h n => b.h c o (a.h c o h n) n
  f := fun c o h n => by
    cases e : Hs1 c with
    | some o1 => exact a.f c o1 e n
    | none =>
      have h1 := b.f c o h e
      cases e2 : H c with
      | none => rfl
      | some o2 =>
        by_cases hc : c = g.aT
        · subst hc; rw [b.tp.n] at h; cases h
        · rw [a.h c o2 e2 hc] at h1; cases h1
  le := b.le
  tp := b.tp
theorem RepV.up (u : Up g Hs H Hs' H' τ') (r : RepV g.aT Hs H w v) : RepV g.aT Hs' H' w v := by
  have nn : ∀ {p : Addr} {o : HO}, Hs p = none → H p = some o → Hs' p = none := fun {p o} n e => by
    cases q : Hs' p with
    | none => rfl
    | some o' => rw [u.f p o' q n] at e; cases e
  cases v with
  | sh d => exact Rp.to r u.s
  | ow ds =>
    obtain ⟨p, xs, e, n, hn, hp, hl, hr⟩ := r
    exact ⟨p, xs, e, n, nn hn hp, u.h _ _ hp n, hl, hr.to u.s⟩
  | dk kvs =>
    obtain ⟨p, kv, e, n, hn, hp, hr⟩ := r
    exact ⟨p, kv, e, n, nn hn hp, u.h _ _ hp n, hr.to u.s⟩
  | dt kvs =>
    obtain ⟨p, kv, e, n, hn, hp, hr⟩ := r
    exact ⟨p, kv, e, n, nn hn hp, u.h _ _ hp n, hr.to u.s⟩
  | tp => exact r
theorem Rel.up (r : Rel g Hs H σ env τ) (u : Up g Hs H Hs' H' τ') : Rel g Hs' H' σ env τ' where
  le := u.le
  tp := u.tp
  ls := r.ls.trans u.s
  bs := fun b o h n => u.h b o (r.bs b o h n) n
  fr := fun b o h n => by
    cases e : Hs b with
    | some o1 => exact r.fr b o1 e n
    | none =>
      have h1 := u.f b o h e
      cases e2 : g.H0 b with
      | none => rfl
      | some o2 =>
        by_cases hc : b = g.aT
        · subst hc; rw [u.tp.n] at h; cases h
        · rw [r.bs b o2 e2 hc] at h1; cases h1
  sl := fun i v e => let ⟨w, h1, h2⟩ := r.sl i v e; ⟨w, h1, h2.up u⟩
  ow := r.ow
  ap := r.ap
  ln := r.ln
/-- a new shared object -/
theorem Up.new {p : Addr} {o : HO} (u : Up g Hs H Hs1 H1 τ1) (hp : H1 p = none) : Up g Hs H (upd Hs1 p o) (upd H1 p o) τ1 := by
  have nT : g.aT ≠ p := ne_of_none u.tp.h hp
  have nS : g.aS ≠ p := ne_of_none (u.le _ _ u.tp.s) hp
  refine u.trans ⟨fun b q e => ?_, fun b q e n => ?_, fun b q e n => ?_, fun b q e => ?_, ?_⟩
  · rw [upd_ne (ne_of_none (u.le _ _ e) hp)]; exact e
  · rw [upd_ne (ne_of_none e hp)]; exact e
  · by_cases hb : b = p
    · subst hb; exact hp
    · rw [upd_ne hb, n] at e; cases e
  · by_cases hb : b = p
    · subst hb; rw [upd_same] at e ⊢; exact e
    · rw [upd_ne hb] at e ⊢; exact u.le _ _ e
  · exact ⟨by rw [upd_ne nT]; exact u.tp.h, by rw [upd_ne nT]; exact u.tp.n, by rw [upd_ne nS]; exact u.tp.s, u.tp.l⟩
/-- a new object that is not shared yet -/
theorem Up.mk1 {p : Addr} {o : HO} (u : Up g Hs H Hs1 H1 τ1) (hp : H1 p = none) : Up g Hs H Hs1 (upd H1 p o) τ1 := by
  have nT : g.aT ≠ p := ne_of_none u.tp.h hp
  refine u.trans ⟨.refl _, fun b q e n => ?_, fun b q e n => (by rw [n] at e; cases e), fun b q e => ?_, ?_⟩
  · rw [upd_ne (ne_of_none e hp)]; exact e
  · rw [upd_ne (ne_of_none (u.le _ _ e) hp)]; exact u.le _ _ e
  · exact ⟨by rw [upd_ne nT]; exact u.tp.h, u.tp.n, u.tp.s, u.tp.l⟩
theorem Up.freeS {p : Addr} (u : Up g Hs H Hs1 H1 τ1) (hp : H1 p = none) : Hs1 p = none := u.le.free hp
theorem Up.old {p : Addr} (u : Up g Hs H Hs1 H1 τ1) (hp : H1 p = none) : H p = none := by
  cases e : H p with
  | none => rfl
  | some o =>
    by_cases hc : p = g.aT
    · subst hc; rw [u.tp.h] at hp; cases hp
    · rw [u.h p o e hc] at hp; cases hp
theorem Up.neT {p : Addr} (u : Up g Hs H Hs1 H1 τ1) (hp : H1 p = none) : p ≠ g.aT := fun e => by subst e; rw [u.tp.h] at hp; cases hp
/-- an own list that came into being since is shared -/
theorem Up.share {p : Addr} {xs : List V} (u : Up g Hs H Hs1 H1 τ1) (h0 : H p = none) (hp : H1 p = some (.lst xs)) (hn : Hs1 p = none) (nT : p ≠ g.aT) : Up g Hs H (upd Hs1 p (.lst xs)) H1 τ1 := by
  have nS : g.aS ≠ p := fun e => by subst e; rw [u.tp.s] at hn; cases hn
  refine ⟨fun b q e => ?_, u.h, fun b q e n => ?_, fun b q e => ?_, ?_⟩
  · have e1 := u.s _ _ e
    rw [upd_ne (ne_of_none e1 hn)]; exact e1
  · by_cases hb : b = p
    · subst hb; exact h0
    · rw [upd_ne hb] at e; exact u.f _ _ e n
  · by_cases hb : b = p
    · subst hb; rw [upd_same] at e; cases e; exact hp
    · rw [upd_ne hb] at e; exact u.le _ _ e
  · exact ⟨u.tp.h, by rw [upd_ne nT.symm]; exact u.tp.n, by rw [upd_ne nS]; exact u.tp.s, u.tp.l⟩
theorem same_upd {H : Hp} {p : Addr} {o : HO} (h : H p = none) : Same H (upd H p o) := fun b x e => by
  rw [upd_ne (ne_of_none e h)]
  exact e
end
/-! ### denotations and judgements -/
abbrev DE := Ev → Tp → Option (Vl × Tp)
abbrev DD := Ev → Tp → Option (D × Tp)
abbrev DT := Ev → Tp → Option (Bool × Tp)
abbrev DA := Ev → Tp → Option (List D × Tp)
abbrev DV := Ev → Tp → Option (List Vl × Tp)
/-- readable: a list may be one's own -/
def Rdb (aT : Addr) (Hs H : Hp) (w : V) (d : D) : Prop := Rp Hs w d ∨ ∃ ds p xs, d = .list ds ∧ w = .ref p ∧ p ≠ aT ∧ H p = some (.lst xs) ∧ xs.length ≤ sizeLine ∧ Rps Hs xs ds
theorem Rdb.up {g : G} {Hs H Hs' H' : Hp} {τ' : Tp} {w : V} {d : D} (u : Up g Hs H Hs' H' τ') (r : Rdb g.aT Hs H w d) : Rdb g.aT Hs' H' w d := by
  rcases r with r | ⟨ds, p, xs, e1, e2, n, hp, hl, hr⟩
  · exact .inl (r.to u.s)
  · exact .inr ⟨ds, p, xs, e1, e2, n, u.h _ _ hp n, hl, hr.to u.s⟩
/-- a readable list -/
theorem Rdb.list {aT : Addr} {Hs H : Hp} {w : V} {ds : List D} (le : Same Hs H) (r : Rdb aT Hs H w (.list ds)) : ∃ p xs, w = .ref p ∧ H p = some (.lst xs) ∧ xs.length ≤ sizeLine ∧ Rps Hs xs ds := by
  rcases r with r | ⟨ds', p, xs, e1, e2, n, hp, hl, hr⟩
  · cases r with
    | lst h1 h2 h3 => exact ⟨_, _, rfl, le _ _ h1, h2, h3⟩
  · cases e1
    exact ⟨p, xs, e2, hp, hl, hr⟩
theorem Rdb.tuple {aT : Addr} {Hs H : Hp} {w : V} {ds : List D} (r : Rdb aT Hs H w (.tuple ds)) : ∃ p xs, w = .ref p ∧ Hs p = some (.tup xs) ∧ xs.length ≤ sizeLine ∧ Rps Hs xs ds := by
  rcases r with r | ⟨ds', p, xs, e1, e2, n, hp, hl, hr⟩
  · cases r with
    | tup h1 h2 h3 => exact ⟨_, _, rfl, h1, h2, h3⟩
  · cases e1
theorem Rdb.int {aT : Addr} {Hs H : Hp} {w : V} {i : Int} (r : Rdb aT Hs H w (.int i)) : w = .int i := by
  rcases r with r | ⟨ds', p, xs, e1, e2, n, hp, hl, hr⟩
  · cases r; rfl
  · cases e1
theorem Rdb.bool {aT : Addr} {Hs H : Hp} {w : V} {i : Bool} (r : Rdb aT Hs H w (.bool i)) : w = .bl i := by
  rcases r with r | ⟨ds', p, xs, e1, e2, n, hp, hl, hr⟩
  · cases r; rfl
  · cases e1
theorem Rdb.str {aT : Addr} {Hs H : Hp} {w : V} {i : Str} (r : Rdb aT Hs H w (.str i)) : w = .str i := by
  rcases r with r | ⟨ds', p, xs, e1, e2, n, hp, hl, hr⟩
  · cases r; rfl
  · cases e1
theorem Rdb.dp {K : PySem.W.Frag} {aT : Addr} {Hs H : Hp} {w : V} {d : D} (le : Same Hs H) (r : Rdb aT Hs H w d) : Dp K H w d := by
  rcases r with r | ⟨ds, p, xs, e1, e2, n, hp, hl, hr⟩
  · exact Rp.dp _ _ (r.to le)
  · subst e1; subst e2
    exact .lst (.of hp) (Rps.dp _ _ (hr.to le))
abbrev Rdbs (aT : Addr) (Hs H : Hp) : List V → List D → Prop := Paired (Rdb aT Hs H)
def tD (f : DD) : TE := fun σ H Q => ∃ g Hs env τ d τ', Rel g Hs H σ env τ ∧ f env τ = some (d, τ') ∧ ∀ w Hs' H', Up g Hs H Hs' H' τ' → Rp Hs' w d → Q w H'
def tR (f : DD) : TE := fun σ H Q => ∃ g Hs env τ d τ', Rel g Hs H σ env τ ∧ f env τ = some (d, τ') ∧ ∀ w Hs' H', Up g Hs H Hs' H' τ' → Rdb g.aT Hs' H' w d → Q w H'
def tV (f : DE) : TE := fun σ H Q => ∃ g Hs env τ v τ', Rel g Hs H σ env τ ∧ f env τ = some (v, τ') ∧ ∀ w Hs' H', Up g Hs H Hs' H' τ' → RepV g.aT Hs' H' w v → (v.own = true → ∀ p, w = .ref p → H p = none) → Q w H'
def tB' (f : DT) : TT := fun σ H Q => ∃ g Hs env τ b τ', Rel g Hs H σ env τ ∧ f env τ = some (b, τ') ∧ ∀ Hs' H', Up g Hs H Hs' H' τ' → Q b H'
def tAs (f : DA) : TA := fun σ H Q => ∃ g Hs env τ ds τ', Rel g Hs H σ env τ ∧ f env τ = some (ds, τ') ∧ ∀ ws Hs' H', Up g Hs H Hs' H' τ' → Rps Hs' ws ds → Q ws H'
def tRs (f : DA) : TA := fun σ H Q => ∃ g Hs env τ ds τ', Rel g Hs H σ env τ ∧ f env τ = some (ds, τ') ∧ ∀ ws Hs' H', Up g Hs H Hs' H' τ' → Rdbs g.aT Hs' H' ws ds → Q ws H'
def tVs (f : DV) : TA := fun σ H Q => ∃ g Hs env τ vs τ', Rel g Hs H σ env τ ∧ f env τ = some (vs, τ') ∧ ∀ ws Hs' H', Up g Hs H Hs' H' τ' → Paired (RepV g.aT Hs' H') ws vs → (∀ v ∈ vs, v.own = false) → Q ws H'
/-- shared data; readable data; any value; a test; argument lists -/
abbrev JD (X : Cx) (e : Expr) (f : DD) : Prop := PE X e (tD f)
abbrev JR (X : Cx) (e : Expr) (f : DD) : Prop := PE X e (tR f)
abbrev JV (X : Cx) (e : Expr) (f : DE) : Prop := PE X e (tV f)
abbrev JT (X : Cx) (e : Expr) (f : DT) : Prop := PT X e (tB' f)
abbrev JAs (X : Cx) (es : List Expr) (f : DA) : Prop := PA X es (tAs f)
abbrev JRs (X : Cx) (es : List Expr) (f : DA) : Prop := PA X es (tRs f)
abbrev JVs (X : Cx) (es : List Expr) (f : DV) : Prop := PA X es (tVs f)
section
variable {X : Cx} {e : Expr} {es : List Expr}
theorem PEi {t t' : TE} (h : PE X e t) (i : ∀ σ H Q, t' σ H Q → t σ H Q) : PE X e t' := ⟨fun pins s σ H Q I k => h.run pins s σ H Q I (i σ H Q k)⟩
theorem PTi {t t' : TT} (h : PT X e t) (i : ∀ σ H Q, t' σ H Q → t σ H Q) : PT X e t' := ⟨fun pins s σ H Q I k => h.run pins s σ H Q I (i σ H Q k)⟩
theorem PAi {t t' : TA} (h : PA X es t) (i : ∀ σ H Q, t' σ H Q → t σ H Q) : PA X es t' := ⟨fun pos pins s σ H Q I k => h.run pos pins s σ H Q I (i σ H Q k)⟩
end
/-- the bind of denotations -/
def bnd {α β : Type} (o : Option (α × Tp)) (k : α → Tp → Option β) : Option β := match o with
  | some (a, τ) => k a τ
  | none => none
theorem bnd_some {α β : Type} {a : α} {τ : Tp} {k : α → Tp → Option β} : bnd (some (a, τ)) k = k a τ := rfl
theorem bnd_none {α β : Type} {k : α → Tp → Option β} : bnd none k = none := rfl
theorem bnd_eq {α β : Type} {o : Option (α × Tp)} {k : α → Tp → Option β} {b : β} (h : bnd o k = some b) : ∃ a τ, o = some (a, τ) ∧ k a τ = some b := by
  cases o with
  | none => cases h
  | some p => exact ⟨p.1, p.2, rfl, h⟩
end Pv
namespace Pv
open PySem L2 PySem.Spec PyProof.Rows
theorem Up.refl {g : G} {Hs H : Hp} {τ : Tp} (le : Same Hs H) (tp : TpOk g Hs H τ) : Up g Hs H Hs H τ := ⟨.refl _, fun _ _ h _ => h, fun b o h n => (by rw [n] at h; cases h), le, tp⟩
/-! ### from one judgement to another -/
def shD (f : DE) : DD := fun env τ => bnd (f env τ) fun v τ' => match v with
  | .sh d => some (d, τ')
  | .ow ds => some (.list ds, τ')
  | _ => none
def vD (f : DD) : DE := fun env τ => bnd (f env τ) fun d τ' => some (.sh d, τ')
section
variable {X : Cx} {e : Expr} {pos : Pos}
theorem jd_v {f : DE} (h : JV X e f) : JD X e (shD f) := PEi h fun σ H Q ⟨g, Hs, env, τ, d, τ', r, hf, q⟩ => by
  obtain ⟨v, τ1, h1, h2⟩ := bnd_eq hf
  refine ⟨g, Hs, env, τ, v, τ1, r, h1, fun w Hs' H' u rv fr => ?_⟩
  cases v with
  | sh d' => cases h2; exact q w Hs' H' u rv
  | ow ds =>
    cases h2
    obtain ⟨p, xs, rfl, n, hn, hp, hl, hr⟩ := rv
    have u2 := u.share (fr rfl p rfl) hp hn n
    exact q _ _ H' u2 (.lst upd_same hl (hr.to (same_upd hn)))
  | dk _ => cases h2
  | dt _ => cases h2
  | tp => cases h2
theorem jr_d {f : DD} (h : JD X e f) : JR X e f := PEi h fun σ H Q ⟨g, Hs, env, τ, d, τ', r, hf, q⟩ =>
  ⟨g, Hs, env, τ, d, τ', r, hf, fun w Hs' H' u rv => q w Hs' H' u (.inl rv)⟩
theorem jv_d {f : DD} (h : JD X e f) : JV X e (vD f) := PEi h fun σ H Q ⟨g, Hs, env, τ, v, τ', r, hf, q⟩ => by
  obtain ⟨d, τ1, h1, h2⟩ := bnd_eq hf
  cases h2
  exact ⟨g, Hs, env, τ, d, _, r, h1, fun w Hs' H' u rv => q w Hs' H' u rv fun z => by cases z⟩
theorem jr_v {f : DE} (h : JV X e f) : JR X e (shD f) := jr_d (jd_v h)
/-! ### names, constants -/
def dVar (i : Nat) : DD := fun env τ => match env[i]? with
  | some (some (.sh d)) => some (d, τ)
  | _ => none
def dBor (i : Nat) : DD := fun env τ => match env[i]? with
  | some (some (.sh d)) => some (d, τ)
  | some (some (.ow ds)) => some (.list ds, τ)
  | _ => none
def dTap (i : Nat) : DE := fun env τ => match env[i]? with
  | some (some .tp) => some (.tp, τ)
  | _ => none
theorem var_ok {i : Nat} {x : Str} (hN : X.N[i]? = some x) (hv : Vis X.env.scope x) (hd : (x == ("__debug__" : Str)) = false) (hcd : (x == ("__classdict__" : Str)) = false) : JD X (.Name x pos) (dVar i) :=
  PEi (pe_var (i := i) hN hv hd hcd) fun σ H Q ⟨g, Hs, env, τ, d, τ', r, hf, q⟩ => by
    unfold dVar at hf
    split at hf
    · rename_i d' he
      cases hf
      obtain ⟨w, h1, h2⟩ := r.sl i _ he
      exact ⟨w, h1, q w Hs H (.refl r.le r.tp) h2⟩
    · cases hf
theorem bor_ok {i : Nat} {x : Str} (hN : X.N[i]? = some x) (hv : Vis X.env.scope x) (hd : (x == ("__debug__" : Str)) = false) (hcd : (x == ("__classdict__" : Str)) = false) : JR X (.Name x pos) (dBor i) :=
  PEi (pe_var (i := i) hN hv hd hcd) fun σ H Q ⟨g, Hs, env, τ, d, τ', r, hf, q⟩ => by
    unfold dBor at hf
    split at hf
    · rename_i d' he
      cases hf
      obtain ⟨w, h1, h2⟩ := r.sl i _ he
      exact ⟨w, h1, q w Hs H (.refl r.le r.tp) (.inl h2)⟩
    · rename_i ds he
      cases hf
      obtain ⟨w, h1, p, xs, e1, n, hn, hp, hl, hr⟩ := r.sl i _ he
      exact ⟨w, h1, q w Hs H (.refl r.le r.tp) (.inr ⟨ds, p, xs, rfl, e1, n, hp, hl, hr⟩)⟩
    · cases hf
theorem tap_ok {i : Nat} {x : Str} (hN : X.N[i]? = some x) (hv : Vis X.env.scope x) (hd : (x == ("__debug__" : Str)) = false) (hcd : (x == ("__classdict__" : Str)) = false) : JV X (.Name x pos) (dTap i) :=
  PEi (pe_var (i := i) hN hv hd hcd) fun σ H Q ⟨g, Hs, env, τ, d, τ', r, hf, q⟩ => by
    unfold dTap at hf
    split at hf
    · rename_i he
      cases hf
      obtain ⟨w, h1, h2⟩ := r.sl i _ he
      exact ⟨w, h1, q w Hs H (.refl r.le r.tp) h2 fun z => by cases z⟩
    · cases hf
theorem jvar (i : Nat) {x : Str} (hN : X.N[i]? = some x := by rfl) (hv : Vis X.env.scope x := by first | exact Or.inl rfl | exact Or.inr (Or.inl rfl) | exact Or.inr (Or.inr rfl)) (hd : (x == ("__debug__" : Str)) = false := by decide) (hcd : (x == ("__classdict__" : Str)) = false := by decide) : JD X (.Name x pos) (dVar i) := var_ok hN hv hd hcd
theorem jbor (i : Nat) {x : Str} (hN : X.N[i]? = some x := by rfl) (hv : Vis X.env.scope x := by first | exact Or.inl rfl | exact Or.inr (Or.inl rfl) | exact Or.inr (Or.inr rfl)) (hd : (x == ("__debug__" : Str)) = false := by decide) (hcd : (x == ("__classdict__" : Str)) = false := by decide) : JR X (.Name x pos) (dBor i) := bor_ok hN hv hd hcd
theorem jtap (i : Nat) {x : Str} (hN : X.N[i]? = some x := by rfl) (hv : Vis X.env.scope x := by first | exact Or.inl rfl | exact Or.inr (Or.inl rfl) | exact Or.inr (Or.inr rfl)) (hd : (x == ("__debug__" : Str)) = false := by decide) (hcd : (x == ("__classdict__" : Str)) = false := by decide) : JV X (.Name x pos) (dTap i) := tap_ok hN hv hd hcd
def dK (d : D) : DD := fun _ τ => some (d, τ)
theorem const_ok {v : V} {d : D} (h : PE X e (tC v)) (hr : ∀ H, Rp H v d) : JD X e (dK d) := PEi h fun σ H Q ⟨g, Hs, env, τ, d', τ', r, hf, q⟩ => by
  cases hf
  exact q v Hs H (.refl r.le r.tp) (hr _)
theorem jint {i : Int} {j : Nat} : JD X (.Constant (.int i) j pos) (dK (.int i)) := const_ok pe_int fun _ => .int i
theorem jbl {b : Bool} {j : Nat} : JD X (.Constant (.bool b) j pos) (dK (.bool b)) := const_ok pe_bl fun _ => .bl b
theorem jnon {j : Nat} : JD X (.Constant .none j pos) (dK .none) := const_ok pe_non fun _ => .non
theorem jstr {x : Str} {j : Nat} : JD X (.Constant (.str x) j pos) (dK (.str x)) := const_ok pe_str fun _ => .str x
/-- a module's constants -/
theorem jgint {x : Str} {i : Int} {t : Tok} (hm : X.mg x = some (.int i t)) (hg : Gl X x := by rfl) (hd : (x == ("__debug__" : Str)) = false := by decide) : JD X (.Name x pos) (dK (.int i)) := const_ok (pe_glob hg hm (v := .int i) ⟨t, rfl⟩ hd) fun _ => .int i
theorem jgstr {x y : Str} {t : Tok} (hm : X.mg x = some (.str y t)) (hg : Gl X x := by rfl) (hd : (x == ("__debug__" : Str)) = false := by decide) : JD X (.Name x pos) (dK (.str y)) := const_ok (pe_glob hg hm (v := .str y) ⟨t, rfl⟩ hd) fun _ => .str y
end
/-! ### argument lists -/
def dNil : DA := fun _ τ => some ([], τ)
def dCons (f : DD) (k : DA) : DA := fun env τ => bnd (f env τ) fun x τ1 => bnd (k env τ1) fun xs τ2 => some (x :: xs, τ2)
def vNil : DV := fun _ τ => some ([], τ)
def vCons (f : DD) (k : DV) : DV := fun env τ => bnd (f env τ) fun x τ1 => bnd (k env τ1) fun xs τ2 => some (.sh x :: xs, τ2)
def vTap (i : Nat) (k : DV) : DV := fun env τ => bnd (dTap i env τ) fun _ τ1 => bnd (k env τ1) fun xs τ2 => some (.tp :: xs, τ2)
section
variable {X : Cx} {e : Expr} {es : List Expr} {pos : Pos}
theorem ja_nil : JAs X [] dNil := PAi pa_nil fun σ H Q ⟨g, Hs, env, τ, d, τ', r, hf, q⟩ => by
  cases hf
  exact q [] Hs H (.refl r.le r.tp) .nil
theorem jr_nil : JRs X [] dNil := PAi pa_nil fun σ H Q ⟨g, Hs, env, τ, d, τ', r, hf, q⟩ => by
  cases hf
  exact q [] Hs H (.refl r.le r.tp) .nil
theorem jvs_nil : JVs X [] vNil := PAi pa_nil fun σ H Q ⟨g, Hs, env, τ, d, τ', r, hf, q⟩ => by
  cases hf
  exact q [] Hs H (.refl r.le r.tp) .nil (fun v h => by cases h)
theorem ja_cons {f : DD} {k : DA} (he : JD X e f) (hk : JAs X es k) (hs : starEach (e :: es) X.env = (false, eval e X.env) :: starEach es X.env := by rfl) : JAs X (e :: es) (dCons f k) :=
  PAi (pa_cons he hk hs) fun σ H Q ⟨g, Hs, env, τ, ds, τ', r, hf, q⟩ => by
    obtain ⟨x, τ1, h1, h2⟩ := bnd_eq hf
    obtain ⟨xs, τ2, h3, h4⟩ := bnd_eq h2
    cases h4
    refine ⟨g, Hs, env, τ, x, τ1, r, h1, fun w Hs1 H1 u1 r1 => ?_⟩
    refine ⟨g, Hs1, env, τ1, xs, τ', r.up u1, h3, fun ws Hs2 H2 u2 r2 => ?_⟩
    exact q (w :: ws) Hs2 H2 (u1.trans u2) (.cons (r1.to u2.s) r2)
theorem jr_cons {f : DD} {k : DA} (he : JR X e f) (hk : JRs X es k) (hs : starEach (e :: es) X.env = (false, eval e X.env) :: starEach es X.env := by rfl) : JRs X (e :: es) (dCons f k) :=
  PAi (pa_cons he hk hs) fun σ H Q ⟨g, Hs, env, τ, ds, τ', r, hf, q⟩ => by
    obtain ⟨x, τ1, h1, h2⟩ := bnd_eq hf
    obtain ⟨xs, τ2, h3, h4⟩ := bnd_eq h2
    cases h4
    refine ⟨g, Hs, env, τ, x, τ1, r, h1, fun w Hs1 H1 u1 r1 => ?_⟩
    refine ⟨g, Hs1, env, τ1, xs, τ', r.up u1, h3, fun ws Hs2 H2 u2 r2 => ?_⟩
    exact q (w :: ws) Hs2 H2 (u1.trans u2) (.cons (r1.up u2) r2)
theorem jvs_cons {f : DD} {k : DV} (he : JD X e f) (hk : JVs X es k) (hs : starEach (e :: es) X.env = (false, eval e X.env) :: starEach es X.env := by rfl) : JVs X (e :: es) (vCons f k) :=
  PAi (pa_cons he hk hs) fun σ H Q ⟨g, Hs, env, τ, ds, τ', r, hf, q⟩ => by
    obtain ⟨x, τ1, h1, h2⟩ := bnd_eq hf
    obtain ⟨xs, τ2, h3, h4⟩ := bnd_eq h2
    cases h4
    refine ⟨g, Hs, env, τ, x, τ1, r, h1, fun w Hs1 H1 u1 r1 => ?_⟩
    refine ⟨g, Hs1, env, τ1, xs, τ', r.up u1, h3, fun ws Hs2 H2 u2 r2 no => ?_⟩
    refine q (w :: ws) Hs2 H2 (u1.trans u2) (.cons (r1.to u2.s) r2) fun v hv => ?_
    rcases List.mem_cons.mp hv with rfl | hv
    · rfl
    · exact no v hv
theorem jvs_tap {i : Nat} {x : Str} {k : DV} (he : JV X (.Name x pos) (dTap i)) (hk : JVs X es k) (hs : starEach (.Name x pos :: es) X.env = (false, eval (.Name x pos) X.env) :: starEach es X.env := by rfl) : JVs X (.Name x pos :: es) (vTap i k) :=
  PAi (pa_cons he hk hs) fun σ H Q ⟨g, Hs, env, τ, ds, τ', r, hf, q⟩ => by
    obtain ⟨x, τ1, h1, h2⟩ := bnd_eq hf
    obtain ⟨xs, τ2, h3, h4⟩ := bnd_eq h2
    cases h4
    have hx : x = .tp := by
      unfold dTap at h1
      split at h1
      · cases h1; rfl
      · cases h1
    subst hx
    refine ⟨g, Hs, env, τ, .tp, τ1, r, h1, fun w Hs1 H1 u1 r1 _ => ?_⟩
    refine ⟨g, Hs1, env, τ1, xs, τ', r.up u1, h3, fun ws Hs2 H2 u2 r2 no => ?_⟩
    refine q (w :: ws) Hs2 H2 (u1.trans u2) (.cons r1 r2) fun v hv => ?_
    rcases List.mem_cons.mp hv with rfl | hv
    · rfl
    · exact no v hv
end
/-! ### displays -/
def dTup (k : DA) : DD := fun env τ => bnd (k env τ) fun xs τ' => if xs.length ≤ 1000 then some (.tuple xs, τ') else none
def dLst (k : DA) : DE := fun env τ => bnd (k env τ) fun xs τ' => if xs.length ≤ 1000 then some (.ow xs, τ') else none
section
variable {X : Cx} {e : Expr} {es : List Expr} {pos : Pos}
theorem line1000 : (1000 : Nat) ≤ sizeLine := by decide
theorem jtup {x1 : Nat} {k : DA} (h : JAs X es k) : JD X (.Tuple es x1 pos) (dTup k) := PEi (pe_tup h) fun σ H Q ⟨g, Hs, env, τ, d, τ', r, hf, q⟩ => by
  obtain ⟨xs, τ1, h1, h2⟩ := bnd_eq hf
  split at h2
  · rename_i hl
    cases h2
    refine ⟨g, Hs, env, τ, xs, τ', r, h1, fun ws Hs1 H1 u1 r1 => ?_⟩
    have hl2 : ws.length ≤ sizeLine := Nat.le_trans (by rw [r1.len]; exact hl) line1000
    refine ⟨hl2, fun p hp => q _ (upd Hs1 p (.tup ws)) _ (u1.new hp) (.tup upd_same hl2 (r1.to (same_upd (u1.freeS hp))))⟩
  · cases h2
theorem jlst {k : DA} (h : JAs X es k) : JV X (.List es pos) (dLst k) := PEi (pe_lst h) fun σ H Q ⟨g, Hs, env, τ, d, τ', r, hf, q⟩ => by
  obtain ⟨xs, τ1, h1, h2⟩ := bnd_eq hf
  split at h2
  · rename_i hl
    cases h2
    refine ⟨g, Hs, env, τ, xs, τ', r, h1, fun ws Hs1 H1 u1 r1 => ?_⟩
    have hl2 : ws.length ≤ sizeLine := Nat.le_trans (by rw [r1.len]; exact hl) line1000
    refine ⟨hl2, fun p hp => q _ Hs1 _ (u1.mk1 hp) ⟨p, ws, rfl, u1.neT hp, u1.freeS hp, upd_same, hl2, r1⟩ fun _ p' e => ?_⟩
    cases e
    exact u1.old hp
  · cases h2
end
/-! ### operators -/
/-- what follows with a result -/
def Gives (g : G) (Hs H : Hp) (τ : Tp) (v : Vl) (Q : VK) : Prop := ∀ w Hs' H', Up g Hs H Hs' H' τ → RepV g.aT Hs' H' w v → (v.own = true → ∀ p, w = .ref p → H p = none) → Q w H'
section
variable {g : G} {Hs H : Hp} {τ : Tp} {Q : VK}
theorem Gives.d {v : V} {d : D} (le : Same Hs H) (tp : TpOk g Hs H τ) (q : Gives g Hs H τ (.sh d) Q) (r : Rp Hs v d) : Q v H := q v Hs H (.refl le tp) r fun z => by cases z
theorem Gives.lst {xs : List V} {ds : List D} (le : Same Hs H) (tp : TpOk g Hs H τ) (q : Gives g Hs H τ (.ow ds) Q) (hl : xs.length ≤ sizeLine) (r : Rps Hs xs ds) (p : Addr) (hp : H p = none) : Q (.ref p) (upd H p (.lst xs)) := by
  have u := Up.refl le tp
  exact q _ Hs _ (u.mk1 hp) ⟨p, xs, rfl, u.neT hp, u.freeS hp, upd_same, hl, r⟩ fun _ p' e => by cases e; exact hp
theorem Gives.tup {xs : List V} {ds : List D} (le : Same Hs H) (tp : TpOk g Hs H τ) (q : Gives g Hs H τ (.sh (.tuple ds)) Q) (hl : xs.length ≤ sizeLine) (r : Rps Hs xs ds) (p : Addr) (hp : H p = none) : Q (.ref p) (upd H p (.tup xs)) := by
  have u := Up.refl le tp
  exact q _ _ _ (u.new hp) (.tup upd_same hl (r.to (same_upd (u.freeS hp)))) fun z => by cases z
end
def OpS (r : R2) (opV : D → D → Option Vl) : Prop := ∀ (g : G) (Hs H : Hp) (τ : Tp) (w1 w2 : V) (d1 d2 : D) (v : Vl) (Q : VK), Same Hs H → TpOk g Hs H τ → Rdb g.aT Hs H w1 d1 → Rdb g.aT Hs H w2 d2 → opV d1 d2 = some v → Gives g Hs H τ v Q → r w1 w2 H Q
def dBin (opV : D → D → Option Vl) (f k : DD) : DE := fun env τ => bnd (f env τ) fun x τ1 => bnd (k env τ1) fun y τ2 => (opV x y).map (·, τ2)
section
variable {X : Cx} {a b : Expr} {pos : Pos} {f k : DD}
theorem opS_run {r : R2} {opV : D → D → Option Vl} (s : OpS r opV) : ∀ σ H Q, tV (dBin opV f k) σ H Q → tOp r (tR f) (tR k) σ H Q := fun σ H Q ⟨g, Hs, env, τ, v, τ', r0, hf, q⟩ => by
  obtain ⟨x, τ1, h1, h2⟩ := bnd_eq hf
  obtain ⟨y, τ2, h3, h4⟩ := bnd_eq h2
  have h5 : opV x y = some v ∧ τ2 = τ' := by
    cases e : opV x y with
    | none => rw [e] at h4; cases h4
    | some z => rw [e] at h4; cases h4; exact ⟨rfl, rfl⟩
  obtain ⟨h5, rfl⟩ := h5
  refine ⟨g, Hs, env, τ, x, τ1, r0, h1, fun w Hs1 H1 u1 r1 => ?_⟩
  refine ⟨g, Hs1, env, τ1, y, τ2, r0.up u1, h3, fun w2 Hs2 H2 u2 r2 => ?_⟩
  refine s g Hs2 H2 τ2 w w2 x y v Q u2.le u2.tp (r1.up u2) r2 h5 fun w3 Hs3 H3 u3 rv fr => ?_
  exact q w3 Hs3 H3 ((u1.trans u2).trans u3) rv fun ho p e => by
    have := fr ho p e
    exact (u1.trans u2).old this
theorem jbin {op : Operator} {r : R2} {opV : D → D → Option Vl} (ho : OpR X (binaryOp op) r) (s : OpS r opV) (ha : JR X a f) (hb : JR X b k) : JV X (.BinOp a op b pos) (dBin opV f k) := PEi (pe_op ho ha hb) (opS_run s)
theorem jcmp {op : CmpOp} {r : R2} {opV : D → D → Option Vl} (ho : OpR X (compareOp op) r) (s : OpS r opV) (ha : JR X a f) (hb : JR X b k) (hm : behindInMarks op b = false) : JV X (.Compare a [op] [b] pos) (dBin opV f k) := PEi (pe_cmpR ho ha hb hm) (opS_run s)
end
/-! +, -, *, //, %, ** -/
def addV : D → D → Option Vl
  | .int i, .int j => some (.sh (.int (i + j)))
  | .list xs, .list ys => if xs.length + ys.length ≤ 16777216 then some (.ow (xs ++ ys)) else none
  | .tuple xs, .tuple ys => if xs.length + ys.length ≤ 16777216 then some (.sh (.tuple (xs ++ ys))) else none
  | .str x, .str y => if x.length + y.length ≤ 16777216 then some (.sh (.str (x ++ y))) else none
  | _, _ => none
theorem line_eq : sizeLine = 16777216 := by decide
def rAddD (K : PySem.W.Frag) : R2 := fun x y H Q => (∃ i j, x = .int i ∧ y = .int j ∧ Q (.int (i + j)) H) ∨ rCat x y H Q ∨ rCatA K x y H Q ∨ (∃ i j, x = .str i ∧ y = .str j ∧ i.length + j.length ≤ sizeLine ∧ Q (.str (i ++ j)) H)
theorem op_addD {X : Cx} : OpR X (binaryOp .Add) (rAddD X.K) := op_add.or (op_cat.or (op_catA.or op_add_str))
theorem add_s {K : PySem.W.Frag} : OpS (rAddD K) addV := by
  intro g Hs H τ w1 w2 d1 d2 v Q le tp r1 r2 e q
  unfold addV at e
  split at e
  · cases e
    exact .inl ⟨_, _, r1.int, r2.int, q.d le tp (.int _)⟩
  · split at e
    · cases e
      rename_i xs ys hl
      obtain ⟨p1, x1, rfl, h1, l1, k1⟩ := r1.list le
      obtain ⟨p2, x2, rfl, h2, l2, k2⟩ := r2.list le
      have hl2 : x1.length + x2.length ≤ sizeLine := by rw [k1.len, k2.len, line_eq]; exact hl
      exact .inr (.inl ⟨p1, p2, x1, x2, rfl, rfl, h1, h2, hl2, q.lst le tp (by rw [List.length_append]; exact hl2) (k1.app k2)⟩)
    · cases e
  · split at e
    · cases e
      rename_i xs ys hl
      obtain ⟨p1, x1, rfl, h1, l1, k1⟩ := r1.tuple
      obtain ⟨p2, x2, rfl, h2, l2, k2⟩ := r2.tuple
      have hl2 : x1.length + x2.length ≤ sizeLine := by rw [k1.len, k2.len, line_eq]; exact hl
      refine .inr (.inr (.inl ⟨p1, p2, x1, x2, rfl, rfl, .of (le _ _ h1), .of (le _ _ h2), hl2, fun z => ?_, fun _ z => ?_, fun _ _ => q.tup le tp (by rw [List.length_append]; exact hl2) (k1.app k2)⟩))
      · subst z
        have e0 : xs = [] := by have := k1.len; exact List.eq_nil_of_length_eq_zero this.symm
        subst e0
        exact q.d le tp (.tup h2 l2 k2)
      · subst z
        have e0 : ys = [] := by have := k2.len; exact List.eq_nil_of_length_eq_zero this.symm
        subst e0
        refine q.d le tp (.tup h1 l1 ?_)
        rw [List.append_nil]
        exact k1
    · cases e
  · split at e
    · cases e
      rename_i x y hl
      exact .inr (.inr (.inr ⟨_, _, r1.str, r2.str, by rw [line_eq]; exact hl, q.d le tp (.str _)⟩))
    · cases e
  · cases e
def subV : D → D → Option Vl
  | .int i, .int j => some (.sh (.int (i - j)))
  | _, _ => none
theorem sub_s : OpS (rI0 fun i j => .int (i - j)) subV := by
  intro g Hs H τ w1 w2 d1 d2 v Q le tp r1 r2 e q
  unfold subV at e
  split at e
  · cases e
    exact ⟨_, _, r1.int, r2.int, q.d le tp (.int _)⟩
  · cases e
def mulV : D → D → Option Vl
  | .int i, .int j => if (-18446744073709551616 < i ∧ i < 18446744073709551616) ∨ (-18446744073709551616 < j ∧ j < 18446744073709551616) then some (.sh (.int (i * j))) else none
  | .list xs, .int k => if -9223372036854775808 ≤ k ∧ k < 9223372036854775808 ∧ xs.length * k.toNat ≤ 16777216 then some (.ow (List.replicate k.toNat xs).flatten) else none
  | .tuple xs, .int k => if xs ≠ [] ∧ 2 ≤ k ∧ k ≤ 1000 ∧ xs.length ≤ 1000 then some (.sh (.tuple (List.replicate k.toNat xs).flatten)) else none
  | _, _ => none
theorem Rps.rep {H : Hp} {vs : List V} {ds : List D} (h : Rps H vs ds) : ∀ n : Nat, Rps H (List.replicate n vs).flatten (List.replicate n ds).flatten
  | 0 => .nil
  | n + 1 => by
    rw [List.replicate_succ, List.replicate_succ, List.flatten_cons, List.flatten_cons]
    exact h.app (Rps.rep h n)
theorem flat_len {α : Type} (xs : List α) (n : Nat) : (List.replicate n xs).flatten.length = xs.length * n := by
  induction n with
  | zero => rfl
  | succ n ih => rw [List.replicate_succ, List.flatten_cons, List.length_append, ih, Nat.mul_succ, Nat.add_comm]
def rMulD (K : PySem.W.Frag) : R2 := fun x y H Q => rI CMul (fun i j => .int (i * j)) x y H Q ∨ rRep x y H Q ∨ rRepT K x y H Q
theorem op_mulD {X : Cx} : OpR X (binaryOp .Mult) (rMulD X.K) := op_mul.or (op_rep.or op_repT)
theorem mul_s {K : PySem.W.Frag} : OpS (rMulD K) mulV := by
  intro g Hs H τ w1 w2 d1 d2 v Q le tp r1 r2 e q
  unfold mulV at e
  split at e
  · split at e
    · cases e
      rename_i i j hc
      refine .inl ⟨_, _, r1.int, r2.int, ?_, q.d le tp (.int _)⟩
      unfold CMul
      have e2 : (2 : Int) ^ 64 = 18446744073709551616 := by decide
      rw [e2]
      exact hc
    · cases e
  · split at e
    · cases e
      rename_i xs k hc
      obtain ⟨p1, x1, rfl, h1, l1, k1⟩ := r1.list le
      have hl : x1.length * k.toNat ≤ sizeLine := by rw [k1.len, line_eq]; exact hc.2.2
      have e2 : (2 : Int) ^ 63 = 9223372036854775808 := by decide
      exact .inr (.inl ⟨p1, k, x1, rfl, r2.int, h1, by rw [e2]; exact hc.1, by rw [e2]; exact hc.2.1, hl, fun p hp => q.lst le tp (by rw [flat_len]; exact hl) (k1.rep _) p hp⟩)
    · cases e
  · split at e
    · cases e
      rename_i xs k hc
      obtain ⟨p1, x1, rfl, h1, l1, k1⟩ := r1.tuple
      have hl := k1.len
      refine .inr (.inr ⟨p1, k, x1, rfl, r2.int, .of (le _ _ h1), fun z => hc.1 ?_, hc.2.1, hc.2.2.1, by rw [hl]; exact hc.2.2.2, fun p hp => q.tup le tp ?_ (k1.rep _) p hp⟩)
      · subst z
        exact List.eq_nil_of_length_eq_zero hl.symm
      · rw [flat_len, hl, line_eq]
        have h2 : k.toNat ≤ 1000 := by omega
        have h3 : xs.length * k.toNat ≤ 1000 * 1000 := Nat.mul_le_mul hc.2.2.2 h2
        omega
    · cases e
  · cases e
def fdivV : D → D → Option Vl
  | .int i, .int j => if 0 < j ∧ j < 18446744073709551616 then some (.sh (.int (i / j))) else none
  | _, _ => none
theorem fdiv_s : OpS (rI CDivW fun i j => .int (i / j)) fdivV := by
  intro g Hs H τ w1 w2 d1 d2 v Q le tp r1 r2 e q
  unfold fdivV at e
  split at e
  · split at e
    · cases e
      rename_i i j hc
      refine ⟨_, _, r1.int, r2.int, wide_div (b := 64) hc.1 ?_ (by decide) (by decide), q.d le tp (.int _)⟩
      have e2 : (2 : Nat) ^ 64 = 18446744073709551616 := by decide
      rw [e2]
      omega
    · cases e
  · cases e
def modV : D → D → Option Vl
  | .int i, .int j => if 0 < j then some (.sh (.int (i % j))) else none
  | _, _ => none
theorem mod_s : OpS (rI (fun _ j => 0 < j) fun i j => .int (i % j)) modV := by
  intro g Hs H τ w1 w2 d1 d2 v Q le tp r1 r2 e q
  unfold modV at e
  split at e
  · split at e
    · cases e
      rename_i i j hc
      exact ⟨_, _, r1.int, r2.int, hc, q.d le tp (.int _)⟩
    · cases e
  · cases e
def powV : D → D → Option Vl
  | .int i, .int j => if 0 ≤ j ∧ j ≤ 1000000 ∧ i.natAbs < 18446744073709551616 then some (.sh (.int (i ^ j.toNat))) else none
  | _, _ => none
theorem pow_s : OpS (rI CPow fun i j => .int (i ^ j.toNat)) powV := by
  intro g Hs H τ w1 w2 d1 d2 v Q le tp r1 r2 e q
  unfold powV at e
  split at e
  · split at e
    · cases e
      rename_i i j hc
      refine ⟨_, _, r1.int, r2.int, ⟨hc.1, hc.2.1, ?_⟩, q.d le tp (.int _)⟩
      have e2 : (2 : Nat) ^ 64 = 18446744073709551616 := by decide
      rw [e2]
      exact hc.2.2
    · cases e
  · cases e
section
variable {X : Cx} {a b : Expr} {pos : Pos} {f k : DD}
theorem jadd (ha : JR X a f) (hb : JR X b k) : JV X (.BinOp a .Add b pos) (dBin addV f k) := jbin op_addD add_s ha hb
theorem jsub (ha : JR X a f) (hb : JR X b k) : JV X (.BinOp a .Sub b pos) (dBin subV f k) := jbin op_sub sub_s ha hb
theorem jmul (ha : JR X a f) (hb : JR X b k) : JV X (.BinOp a .Mult b pos) (dBin mulV f k) := jbin op_mulD mul_s ha hb
theorem jfdiv (ha : JR X a f) (hb : JR X b k) : JV X (.BinOp a .FloorDiv b pos) (dBin fdivV f k) := jbin op_fdivW fdiv_s ha hb
theorem jmod (ha : JR X a f) (hb : JR X b k) : JV X (.BinOp a .Mod b pos) (dBin modV f k) := jbin op_mod mod_s ha hb
theorem jpow (ha : JR X a f) (hb : JR X b k) : JV X (.BinOp a .Pow b pos) (dBin powV f k) := jbin op_pow pow_s ha hb
end
/-! -x -/
def dNeg (f : DD) : DD := fun env τ => bnd (f env τ) fun x τ1 => match x with
  | .int i => some (.int (-i), τ1)
  | _ => none
theorem jneg {X : Cx} {a : Expr} {pos : Pos} {f : DD} (ha : JD X a f) : JD X (.UnaryOp .USub a pos) (dNeg f) := PEi (pe_un un_neg ha) fun σ H Q ⟨g, Hs, env, τ, v, τ', r0, hf, q⟩ => by
  obtain ⟨x, τ1, h1, h2⟩ := bnd_eq hf
  refine ⟨g, Hs, env, τ, x, τ1, r0, h1, fun w Hs1 H1 u1 r1 => ?_⟩
  split at h2
  · cases h2
    cases r1
    exact ⟨_, rfl, q _ Hs1 H1 u1 (.int _)⟩
  · cases h2
/-! ### subscripts -/
def ixD : D → D → Option D
  | .list xs, .int i => atI xs i
  | .tuple xs, .int i => atI xs i
  | _, _ => none
def ixV (x y : D) : Option Vl := (ixD x y).map .sh
theorem Rps.atI {H : Hp} {vs : List V} {ds : List D} {i : Int} {d : D} (h : Rps H vs ds) (e : L2.atI ds i = some d) : ∃ v, L2.atI vs i = some v ∧ Rp H v d := by
  unfold L2.atI at e ⊢
  rw [h.len]
  cases q : ixN ds.length i with
  | none => rw [q] at e; cases e
  | some j =>
    rw [q] at e
    exact h.get e
theorem ix_s {K : PySem.W.Frag} : OpS (rIx K) ixV := by
  intro g Hs H τ w1 w2 d1 d2 v Q le tp r1 r2 e q
  unfold ixV ixD at e
  split at e
  · rename_i xs i
    cases h : atI xs i with
    | none => rw [h] at e; cases e
    | some d =>
      rw [h] at e; cases e
      obtain ⟨p1, x1, rfl, h1, l1, k1⟩ := r1.list le
      obtain ⟨v1, e1, k2⟩ := k1.atI h
      exact .inl ⟨p1, x1, i, v1, rfl, r2.int, .of h1, e1, q.d le tp k2⟩
  · rename_i xs i
    cases h : atI xs i with
    | none => rw [h] at e; cases e
    | some d =>
      rw [h] at e; cases e
      obtain ⟨p1, x1, rfl, h1, l1, k1⟩ := r1.tuple
      obtain ⟨v1, e1, k2⟩ := k1.atI h
      exact .inr (.inl ⟨p1, x1, i, v1, rfl, r2.int, .of (le _ _ h1), e1, q.d le tp k2⟩)
  · cases e
theorem jix {X : Cx} {a b : Expr} {pos : Pos} {f k : DD} (ha : JR X a f) (hb : JR X b k) (hs : PlainIx b := by intro _ _; rfl) : JV X (.Subscript a b pos) (dBin ixV f k) := PEi (pe_ix ix_seq ha hb hs) (opS_run ix_s)
/-- the tape read -/
def dTapIx (i : Nat) (j : Nat) : DD := fun env τ => match env[i]? with
  | some (some .tp) => match j with
    | 0 => some (.list (τ.sc.map .int), τ)
    | 1 => some (.int τ.pos, τ)
    | 2 => some (.int τ.cell, τ)
    | _ => none
  | _ => none
theorem len_sc {τ : Tp} (h : τ.sc.length ≤ 63) : (τ.sc.map V.int).length ≤ sizeLine := by rw [List.length_map, line_eq]; omega
theorem jtapix {X : Cx} {x : Str} {i : Nat} {j : Nat} {z : Int} {jj : Nat} {p1 p2 pos : Pos} (ha : JV X (.Name x p1) (dTap i)) (hz : z = (j : Int) := by rfl) (hs : PlainIx (.Constant (.int z) jj p2) := by intro _ _; rfl) :
    JD X (.Subscript (.Name x p1) (.Constant (.int z) jj p2) pos) (dTapIx i j) :=
  PEi (pe_ix ix_list ha pe_int hs) fun σ H Q ⟨g, Hs, env, τ, d, τ', r, hf, q⟩ => by
    unfold dTapIx at hf
    split at hf
    · rename_i he
      refine ⟨g, Hs, env, τ, .tp, τ, r, by unfold dTap; rw [he], fun w Hs1 H1 u1 r1 _ => ?_⟩
      have r1 : w = .ref g.aT := r1
      subst r1
      subst hz
      have hT := u1.tp.h
      split at hf
      · cases hf
        exact ⟨g.aT, _, _, .ref g.aS, rfl, rfl, .of hT, atI_nat (j := 0) rfl, q _ Hs1 H1 u1 (.lst u1.tp.s (len_sc u1.tp.l) (Rps.ints _))⟩
      · cases hf
        exact ⟨g.aT, _, _, .int _, rfl, rfl, .of hT, atI_nat (j := 1) rfl, q _ Hs1 H1 u1 (.int _)⟩
      · cases hf
        exact ⟨g.aT, _, _, .int _, rfl, rfl, .of hT, atI_nat (j := 2) rfl, q _ Hs1 H1 u1 (.int _)⟩
      · cases hf
    · cases hf
/-! slices -/
abbrev DO := Ev → Tp → Option (Option Int × Tp)
def oNone : DO := fun _ τ => some (none, τ)
def oSome (f : DD) : DO := fun env τ => bnd (f env τ) fun x τ1 => match x with
  | .int i => some (some i, τ1)
  | _ => none
def cutD (xs : List D) (lo hi : Option Int) : List D := (xs.drop (HT.sIx xs.length 0 lo)).take (HT.sIx xs.length xs.length hi - HT.sIx xs.length 0 lo)
def slD (x : D) (lo hi : Option Int) : Option Vl := match x with
  | .list xs => some (.ow (cutD xs lo hi))
  | .tuple xs => some (.sh (.tuple (cutD xs lo hi)))
  | _ => none
def dSl (f : DD) (l h : DO) : DE := fun env τ => bnd (f env τ) fun x τ1 => bnd (l env τ1) fun lo τ2 => bnd (h env τ2) fun hi τ3 => (slD x lo hi).map (·, τ3)
def tO (f : DO) : TO := fun σ H Q => ∃ g Hs env τ d τ', Rel g Hs H σ env τ ∧ f env τ = some (d, τ') ∧ ∀ Hs' H', Up g Hs H Hs' H' τ' → Q d H'
abbrev JO (X : Cx) (e : Option Expr) (f : DO) : Prop := PO X e (tO f)
theorem POi {X : Cx} {e : Option Expr} {t t' : TO} (h : PO X e t) (i : ∀ σ H Q, t' σ H Q → t σ H Q) : PO X e t' := ⟨fun pins s σ H Q I k => h.run pins s σ H Q I (i σ H Q k)⟩
theorem jo_none {X : Cx} : JO X none oNone := POi po_none fun σ H Q ⟨g, Hs, env, τ, d, τ', r, hf, q⟩ => by
  cases hf
  exact q Hs H (.refl r.le r.tp)
theorem jo_some {X : Cx} {e : Expr} {f : DD} (h : JD X e f) : JO X (some e) (oSome f) := POi (po_some h) fun σ H Q ⟨g, Hs, env, τ, d, τ', r, hf, q⟩ => by
  obtain ⟨x, τ1, h1, h2⟩ := bnd_eq hf
  refine ⟨g, Hs, env, τ, x, τ1, r, h1, fun w Hs1 H1 u1 r1 => ?_⟩
  split at h2
  · cases h2
    cases r1
    exact ⟨_, rfl, q Hs1 H1 u1⟩
  · cases h2
theorem Rps.cut {H : Hp} {vs : List V} {ds : List D} (h : Rps H vs ds) (lo hi : Option Int) : Rps H (cutV vs lo hi) (cutD ds lo hi) := by
  unfold cutV cutD
  rw [h.len]
  exact (h.drop _).take _
theorem jsl {X : Cx} {e : Expr} {lo hi : Option Expr} {p2 pos : Pos} {f : DD} {l h : DO} (he : JR X e f) (hl : JO X lo l) (hh : JO X hi h) : JV X (.Subscript e (.Slice lo hi none p2) pos) (dSl f l h) :=
  PEi (pe_slice (sl_list.or sl_tupA) he hl hh) fun σ H Q ⟨g, Hs, env, τ, v, τ', r, hf, q⟩ => by
    obtain ⟨x, τ1, h1, h2⟩ := bnd_eq hf
    obtain ⟨a, τ2, h3, h4⟩ := bnd_eq h2
    obtain ⟨b, τ3, h5, h6⟩ := bnd_eq h4
    refine ⟨g, Hs, env, τ, x, τ1, r, h1, fun w Hs1 H1 u1 r1 => ?_⟩
    refine ⟨g, Hs1, env, τ1, a, τ2, r.up u1, h3, fun Hs2 H2 u2 => ?_⟩
    refine ⟨g, Hs2, env, τ2, b, τ3, (r.up u1).up u2, h5, fun Hs3 H3 u3 => ?_⟩
    have u := (u1.trans u2).trans u3
    have r2 := r1.up (u2.trans u3)
    have q' : ∀ v', v' = v → τ3 = τ' → Gives g Hs3 H3 τ3 v' Q := fun v' e1 e2 w' Hs' H' u' rv fr => by
      subst e1; subst e2
      exact q w' Hs' H' (u.trans u') rv fun ho p e => u.old (fr ho p e)
    unfold slD at h6
    split at h6
    · cases h6
      obtain ⟨p1, x1, rfl, h1, l1, k1⟩ := r2.list u3.le
      refine .inl ⟨p1, x1, rfl, .of h1, fun p hp => (q' _ rfl rfl).lst u3.le u3.tp (Nat.le_trans (cutV_length _ _ _) l1) (k1.cut a b) p hp⟩
    · cases h6
      rename_i xs
      obtain ⟨p1, x1, rfl, h1, l1, k1⟩ := r2.tuple
      refine .inr ⟨p1, x1, rfl, .of (u3.le _ _ h1), fun z => ?_, fun _ p hp => (q' _ rfl rfl).tup u3.le u3.tp (Nat.le_trans (cutV_length _ _ _) l1) (k1.cut a b) p hp⟩
      have e1 : cutD xs a b = xs := by
        unfold cutD
        rw [k1.len] at z
        rw [z.1, z.2, List.drop_zero, Nat.sub_zero, List.take_length]
      refine (q' _ rfl rfl).d u3.le u3.tp ?_
      rw [e1]
      exact .tup h1 l1 k1
    · cases h6
end Pv
namespace Pv
open PySem L2 PySem.Spec PyProof.Rows
mutual
theorem Dp.plain {K : PySem.W.Frag} {H : Hp} : ∀ (d : D) (v : V), Dp K H v d → d.plain = true
  | .none, _, _ => rfl
  | .bool _, _, _ => rfl
  | .int _, _, _ => rfl
  | .str _, _, _ => rfl
  | .list ds, _, h => by
    cases h with
    | lst _ h => simp only [PyData.plain]; exact Dp.plainAll ds _ h
  | .tuple ds, _, h => by
    cases h with
    | tup _ h => simp only [PyData.plain]; exact Dp.plainAll ds _ h
  | .dict _, _, h => by cases h
theorem Dp.plainAll {K : PySem.W.Frag} {H : Hp} : ∀ (ds : List D) (vs : List V), DpAll K H vs ds → PyData.plainAll ds = true
  | [], _, _ => rfl
  | d :: ds, _, h => by
    cases h with
    | cons h1 h2 => simp only [PyData.plainAll, Dp.plain d _ h1, Dp.plainAll ds _ h2, Bool.and_self]
end
/-! ### == and != of data -/
def eqV (x y : D) : Option Vl := if min x.depth y.depth ≤ 60 then some (.sh (.bool (PyData.eqv x y))) else none
def neV (x y : D) : Option Vl := if min x.depth y.depth ≤ 60 then some (.sh (.bool (!PyData.eqv x y))) else none
def rEqP (K : PySem.W.Frag) : R2 := fun x y H Q => ∃ d e, Dp K H x d ∧ Dp K H y e ∧ min d.depth e.depth ≤ 60 ∧ Q (.bl (PyData.eqv d e)) H
def rNeP (K : PySem.W.Frag) : R2 := fun x y H Q => ∃ d e, Dp K H x d ∧ Dp K H y e ∧ min d.depth e.depth ≤ 60 ∧ Q (.bl (!PyData.eqv d e)) H
section
variable {X : Cx}
theorem op_eqP (hu : X.A.units + 64 < cLine) : OpR X (compareOp .Eq) (rEqP X.K) := by
  intro pins s σ H x y v u Q I rx ry h
  obtain ⟨d, e, hd, he, hm, q⟩ := h
  obtain ⟨as, r1⟩ := L2.Dp.reads I d x v hd rx
  obtain ⟨bs, r2⟩ := L2.Dp.reads I e y u he ry
  exact SeqAt.eq_plain r1 r2 (Dp.plain d x hd) (Dp.plain e y he) (Nat.lt_of_le_of_lt (Nat.add_le_add_left (Nat.le_trans hm (by decide : 60 ≤ 64)) _) hu) ⟨.bl _, H, I, rfl, q⟩
theorem op_neP (hu : X.A.units + 64 < cLine) : OpR X (compareOp .NotEq) (rNeP X.K) := by
  intro pins s σ H x y v u Q I rx ry h
  obtain ⟨d, e, hd, he, hm, q⟩ := h
  obtain ⟨as, r1⟩ := L2.Dp.reads I d x v hd rx
  obtain ⟨bs, r2⟩ := L2.Dp.reads I e y u he ry
  exact SeqAt.ne_plain r1 r2 (Dp.plain d x hd) (Dp.plain e y he) (Nat.lt_of_le_of_lt (Nat.add_le_add_left (Nat.le_trans hm (by decide : 60 ≤ 64)) _) hu) ⟨.bl _, H, I, rfl, q⟩
theorem eq_s {K : PySem.W.Frag} : OpS (rEqP K) eqV := by
  intro g Hs H τ w1 w2 d1 d2 v Q le tp r1 r2 e q
  unfold eqV at e
  split at e
  · cases e
    exact ⟨d1, d2, r1.dp le, r2.dp le, by assumption, q.d le tp (.bl _)⟩
  · cases e
theorem ne_s {K : PySem.W.Frag} : OpS (rNeP K) neV := by
  intro g Hs H τ w1 w2 d1 d2 v Q le tp r1 r2 e q
  unfold neV at e
  split at e
  · cases e
    exact ⟨d1, d2, r1.dp le, r2.dp le, by assumption, q.d le tp (.bl _)⟩
  · cases e
/-! ### < of data, <=, >, >= of ints -/
def nn : D → Bool
  | .none => false
  | _ => true
theorem nn_ne {d : D} (h : nn d = true) : d ≠ .none := fun e => by subst e; cases h
def ltV (x y : D) : Option Vl := if W.alike x y = true ∧ nn x = true ∧ min x.depth y.depth ≤ 60 then some (.sh (.bool (W.dataLt x y))) else none
def rLtP (K : PySem.W.Frag) : R2 := fun x y H Q => ∃ d e, Dp K H x d ∧ Dp K H y e ∧ W.alike d e = true ∧ nn d = true ∧ min d.depth e.depth ≤ 60 ∧ Q (.bl (W.dataLt d e)) H
theorem op_ltP (hu : X.A.units + 64 < cLine) : OpR X (compareOp .Lt) (rLtP X.K) := by
  intro pins s σ H x y v u Q I rx ry h
  obtain ⟨d, e, hd, he, ha, hn, hm, q⟩ := h
  obtain ⟨as, r1⟩ := L2.Dp.reads I d x v hd rx
  obtain ⟨bs, r2⟩ := L2.Dp.reads I e y u he ry
  exact W.rcLt_alike d e X.A s v u as bs r1 r2 ha (nn_ne hn) (Nat.lt_of_le_of_lt (Nat.add_le_add_left (Nat.le_trans hm (by decide : 60 ≤ 64)) _) hu) X.prog X.w X.xe _ ⟨.bl _, H, I, rfl, q⟩
theorem lt_s {K : PySem.W.Frag} : OpS (rLtP K) ltV := by
  intro g Hs H τ w1 w2 d1 d2 v Q le tp r1 r2 e q
  unfold ltV at e
  split at e
  · rename_i hc
    cases e
    exact ⟨d1, d2, r1.dp le, r2.dp le, hc.1, hc.2.1, hc.2.2, q.d le tp (.bl _)⟩
  · cases e
def leV : D → D → Option Vl
  | .int i, .int j => some (.sh (.bool (decide (i ≤ j))))
  | _, _ => none
def gtV : D → D → Option Vl
  | .int i, .int j => some (.sh (.bool (decide (j < i))))
  | _, _ => none
def geV : D → D → Option Vl
  | .int i, .int j => some (.sh (.bool (decide (j ≤ i))))
  | _, _ => none
theorem le_s : OpS (rI0 fun i j => .bl (decide (i ≤ j))) leV := by
  intro g Hs H τ w1 w2 d1 d2 v Q le tp r1 r2 e q
  unfold leV at e
  split at e
  · cases e
    exact ⟨_, _, r1.int, r2.int, q.d le tp (.bl _)⟩
  · cases e
theorem gt_s : OpS (rI0 fun i j => .bl (decide (j < i))) gtV := by
  intro g Hs H τ w1 w2 d1 d2 v Q le tp r1 r2 e q
  unfold gtV at e
  split at e
  · cases e
    exact ⟨_, _, r1.int, r2.int, q.d le tp (.bl _)⟩
  · cases e
theorem ge_s : OpS (rI0 fun i j => .bl (decide (j ≤ i))) geV := by
  intro g Hs H τ w1 w2 d1 d2 v Q le tp r1 r2 e q
  unfold geV at e
  split at e
  · cases e
    exact ⟨_, _, r1.int, r2.int, q.d le tp (.bl _)⟩
  · cases e
/-! ### in, not in -/
/-- x in y: a list or tuple, or one sign in a text -/
def inB (x y : D) : Option Bool := match y with
  | .list ds => if min (PyData.depthAll ds) x.depth ≤ 60 then some (ds.any fun z => PyData.eqv z x) else none
  | .tuple ds => if min (PyData.depthAll ds) x.depth ≤ 60 then some (ds.any fun z => PyData.eqv z x) else none
  | .str z => match x with
    | .str c => match c.cps.toList with
      | [n] => some (decide (n ∈ z.cps.toList))
      | _ => none
    | _ => none
  | _ => none
def inV (x y : D) : Option Vl := (inB x y).map fun b => .sh (.bool b)
def niV (x y : D) : Option Vl := (inB x y).map fun b => .sh (.bool (!b))
def rInP (K : PySem.W.Frag) (neg : Bool) : R2 := fun x y H Q => ∃ d ds, Dp K H x d ∧ (Dp K H y (.list ds) ∨ Dp K H y (.tuple ds)) ∧ min (PyData.depthAll ds) d.depth ≤ 60 ∧ Q (.bl (if neg then !ds.any (fun z => PyData.eqv z d) else ds.any fun z => PyData.eqv z d)) H
theorem op_inP (hu : X.A.units + 64 < cLine) : OpR X (compareOp .In) (rInP X.K false) := by
  intro pins s σ H x y v u Q I rx ry h
  obtain ⟨d, ds, hd, he, hm, q⟩ := h
  obtain ⟨as, r1⟩ := L2.Dp.reads I d x v hd rx
  have hu' : X.A.units + 1 + min (PyData.depthAll ds) d.depth < cLine := by
    have : X.A.units + 1 + min (PyData.depthAll ds) d.depth ≤ X.A.units + 64 := by omega
    exact Nat.lt_of_le_of_lt this hu
  rcases he with he | he
  · obtain ⟨bs, r2⟩ := L2.Dp.reads I _ y u he ry
    have hp := Dp.plain _ y he
    simp only [PyData.plain] at hp
    exact SeqAt.in_list_data r2 r1 hp (Dp.plain d x hd) hu' ⟨.bl _, H, I, rfl, q⟩
  · obtain ⟨bs, r2⟩ := L2.Dp.reads I _ y u he ry
    have hp := Dp.plain _ y he
    simp only [PyData.plain] at hp
    exact SeqAt.in_tuple_data r2 r1 hp (Dp.plain d x hd) hu' ⟨.bl _, H, I, rfl, q⟩
theorem op_niP (hu : X.A.units + 64 < cLine) : OpR X (compareOp .NotIn) (rInP X.K true) := by
  intro pins s σ H x y v u Q I rx ry h
  obtain ⟨d, ds, hd, he, hm, q⟩ := h
  obtain ⟨as, r1⟩ := L2.Dp.reads I d x v hd rx
  have hu' : X.A.units + 1 + min (PyData.depthAll ds) d.depth < cLine := by
    have : X.A.units + 1 + min (PyData.depthAll ds) d.depth ≤ X.A.units + 64 := by omega
    exact Nat.lt_of_le_of_lt this hu
  rcases he with he | he
  · obtain ⟨bs, r2⟩ := L2.Dp.reads I _ y u he ry
    have hp := Dp.plain _ y he
    simp only [PyData.plain] at hp
    exact SeqAt.notIn_list_data r2 r1 hp (Dp.plain d x hd) hu' ⟨.bl _, H, I, rfl, q⟩
  · obtain ⟨bs, r2⟩ := L2.Dp.reads I _ y u he ry
    have hp := Dp.plain _ y he
    simp only [PyData.plain] at hp
    exact SeqAt.notIn_tuple_data r2 r1 hp (Dp.plain d x hd) hu' ⟨.bl _, H, I, rfl, q⟩
theorem sign_of {c : Str} {n : Nat} (h : c.cps.toList = [n]) : c = ⟨#[n]⟩ := by
  cases c
  simp only [Str.mk.injEq]
  exact Array.toList_inj.mp h
theorem in_s {K : PySem.W.Frag} : OpS (fun x y H Q => rInP K false x y H Q ∨ ∃ (c : Nat) (z : Str), x = .str ⟨#[c]⟩ ∧ y = .str z ∧ Q (.bl (decide (c ∈ z.cps.toList))) H) inV := by
  intro g Hs H τ w1 w2 d1 d2 v Q le tp r1 r2 e q
  unfold inV inB at e
  split at e
  · split at e
    · cases e
      exact .inl ⟨d1, _, r1.dp le, .inl (r2.dp le), by assumption, q.d le tp (.bl _)⟩
    · cases e
  · split at e
    · cases e
      exact .inl ⟨d1, _, r1.dp le, .inr (r2.dp le), by assumption, q.d le tp (.bl _)⟩
    · cases e
  · split at e
    · split at e
      · rename_i hn
        cases e
        have := sign_of hn
        subst this
        exact .inr ⟨_, _, r1.str, r2.str, q.d le tp (.bl _)⟩
      · cases e
    · cases e
  · cases e
theorem ni_s {K : PySem.W.Frag} : OpS (fun x y H Q => rInP K true x y H Q ∨ ∃ (c : Nat) (z : Str), x = .str ⟨#[c]⟩ ∧ y = .str z ∧ Q (.bl (!decide (c ∈ z.cps.toList))) H) niV := by
  intro g Hs H τ w1 w2 d1 d2 v Q le tp r1 r2 e q
  unfold niV inB at e
  split at e
  · split at e
    · cases e
      exact .inl ⟨d1, _, r1.dp le, .inl (r2.dp le), by assumption, q.d le tp (.bl _)⟩
    · cases e
  · split at e
    · cases e
      exact .inl ⟨d1, _, r1.dp le, .inr (r2.dp le), by assumption, q.d le tp (.bl _)⟩
    · cases e
  · split at e
    · split at e
      · rename_i hn
        cases e
        have := sign_of hn
        subst this
        exact .inr ⟨_, _, r1.str, r2.str, q.d le tp (.bl _)⟩
      · cases e
    · cases e
  · cases e
/-! is None -/
def isnV (x y : D) : Option Vl := match y with
  | .none => some (.sh (.bool (!nn x)))
  | _ => none
def innV (x y : D) : Option Vl := match y with
  | .none => some (.sh (.bool (nn x)))
  | _ => none
theorem Rdb.none_iff {aT : Addr} {Hs H : Hp} {w : V} {d : D} (r : Rdb aT Hs H w d) : decide (w = .non) = !nn d := by
  rcases r with r | ⟨ds, p, xs, e1, e2, n, hp, hl, hr⟩
  · cases r <;> rfl
  · subst e1; subst e2; rfl
theorem isn_s : OpS (fun x y H Q => y = .non ∧ Q (.bl (decide (x = .non))) H) isnV := by
  intro g Hs H τ w1 w2 d1 d2 v Q le tp r1 r2 e q
  unfold isnV at e
  split at e
  · cases e
    have : w2 = .non := by
      rcases r2 with r | ⟨ds, p, xs, e1, _⟩
      · cases r; rfl
      · cases e1
    refine ⟨this, ?_⟩
    rw [r1.none_iff]
    exact q.d le tp (.bl _)
  · cases e
theorem inn_s : OpS (fun x y H Q => y = .non ∧ Q (.bl (!decide (x = .non))) H) innV := by
  intro g Hs H τ w1 w2 d1 d2 v Q le tp r1 r2 e q
  unfold innV at e
  split at e
  · cases e
    have : w2 = .non := by
      rcases r2 with r | ⟨ds, p, xs, e1, _⟩
      · cases r; rfl
      · cases e1
    refine ⟨this, ?_⟩
    rw [r1.none_iff, Bool.not_not]
    exact q.d le tp (.bl _)
  · cases e
end
/-! ### comparisons as values -/
section
variable {X : Cx} {a b : Expr} {pos : Pos} {f k : DD}
theorem jeq (hu : X.A.units + 64 < cLine) (ha : JR X a f) (hb : JR X b k) : JV X (.Compare a [.Eq] [b] pos) (dBin eqV f k) := jcmp (op_eqP hu) eq_s ha hb (nomark _)
theorem jne (hu : X.A.units + 64 < cLine) (ha : JR X a f) (hb : JR X b k) : JV X (.Compare a [.NotEq] [b] pos) (dBin neV f k) := jcmp (op_neP hu) ne_s ha hb (nomark _)
theorem jlt (hu : X.A.units + 64 < cLine) (ha : JR X a f) (hb : JR X b k) : JV X (.Compare a [.Lt] [b] pos) (dBin ltV f k) := jcmp (op_ltP hu) lt_s ha hb (nomark _)
theorem jle (hu : X.A.units + 64 < cLine) (ha : JR X a f) (hb : JR X b k) : JV X (.Compare a [.LtE] [b] pos) (dBin leV f k) := jcmp op_le le_s ha hb (nomark _)
theorem jgt (hu : X.A.units + 64 < cLine) (ha : JR X a f) (hb : JR X b k) : JV X (.Compare a [.Gt] [b] pos) (dBin gtV f k) := jcmp op_gt gt_s ha hb (nomark _)
theorem jge (hu : X.A.units + 64 < cLine) (ha : JR X a f) (hb : JR X b k) : JV X (.Compare a [.GtE] [b] pos) (dBin geV f k) := jcmp op_ge ge_s ha hb (nomark _)
theorem jin (hu : X.A.units + 64 < cLine) (ha : JR X a f) (hb : JR X b k) (hm : behindInMarks .In b = false := by rfl) : JV X (.Compare a [.In] [b] pos) (dBin inV f k) := jcmp ((op_inP hu).or op_in_sign) in_s ha hb hm
theorem jni (hu : X.A.units + 64 < cLine) (ha : JR X a f) (hb : JR X b k) (hm : behindInMarks .NotIn b = false := by rfl) : JV X (.Compare a [.NotIn] [b] pos) (dBin niV f k) := jcmp ((op_niP hu).or op_notIn_sign) ni_s ha hb hm
theorem jis (hu : X.A.units + 64 < cLine) (ha : JR X a f) (hb : JR X b k) : JV X (.Compare a [.Is] [b] pos) (dBin isnV f k) := jcmp op_isN isn_s ha hb (nomark _)
theorem jisnt (hu : X.A.units + 64 < cLine) (ha : JR X a f) (hb : JR X b k) : JV X (.Compare a [.IsNot] [b] pos) (dBin innV f k) := jcmp op_notN inn_s ha hb (nomark _)
end
/-! ### tests -/
def tst (f : DE) : DT := fun env τ => bnd (f env τ) fun v τ' => match v with
  | .sh (.bool b) => some (b, τ')
  | _ => none
def tstD (f : DD) : DT := fun env τ => bnd (f env τ) fun v τ' => match v with
  | .bool b => some (b, τ')
  | _ => none
section
variable {X : Cx} {a b : Expr} {pos : Pos} {f k : DD}
theorem tst_run {f : DE} : ∀ σ H Q, tB' (tst f) σ H Q → tTest (tV f) σ H Q := fun σ H Q ⟨g, Hs, env, τ, b, τ', r0, hf, q⟩ => by
  obtain ⟨x, τ1, h1, h2⟩ := bnd_eq hf
  refine ⟨g, Hs, env, τ, x, τ1, r0, h1, fun w Hs1 H1 u1 r1 _ => ?_⟩
  split at h2
  · cases h2
    cases r1
    exact ⟨_, rfl, q Hs1 H1 u1⟩
  · cases h2
theorem tTest_mono {t t' : TE} (i : ∀ σ H Q, t' σ H Q → t σ H Q) : ∀ σ H Q, tTest t' σ H Q → tTest t σ H Q := fun σ H Q h => i σ H _ h
theorem jtcmp {op : CmpOp} {r : R2} {opV : D → D → Option Vl} (ho : OpR X (compareOp op) r) (s : OpS r opV) (ha : JR X a f) (hb : JR X b k) (hm : behindInMarks op b = false) : JT X (.Compare a [op] [b] pos) (tst (dBin opV f k)) :=
  PTi (pt_cmpR ho ha hb hm) fun σ H Q h => tTest_mono (opS_run s) σ H Q (tst_run σ H Q h)
theorem teq (hu : X.A.units + 64 < cLine) (ha : JR X a f) (hb : JR X b k) : JT X (.Compare a [.Eq] [b] pos) (tst (dBin eqV f k)) := jtcmp (op_eqP hu) eq_s ha hb (nomark _)
theorem tne (hu : X.A.units + 64 < cLine) (ha : JR X a f) (hb : JR X b k) : JT X (.Compare a [.NotEq] [b] pos) (tst (dBin neV f k)) := jtcmp (op_neP hu) ne_s ha hb (nomark _)
theorem tlt (hu : X.A.units + 64 < cLine) (ha : JR X a f) (hb : JR X b k) : JT X (.Compare a [.Lt] [b] pos) (tst (dBin ltV f k)) := jtcmp (op_ltP hu) lt_s ha hb (nomark _)
theorem tle (hu : X.A.units + 64 < cLine) (ha : JR X a f) (hb : JR X b k) : JT X (.Compare a [.LtE] [b] pos) (tst (dBin leV f k)) := jtcmp op_le le_s ha hb (nomark _)
theorem tgt (hu : X.A.units + 64 < cLine) (ha : JR X a f) (hb : JR X b k) : JT X (.Compare a [.Gt] [b] pos) (tst (dBin gtV f k)) := jtcmp op_gt gt_s ha hb (nomark _)
theorem tge (hu : X.A.units + 64 < cLine) (ha : JR X a f) (hb : JR X b k) : JT X (.Compare a [.GtE] [b] pos) (tst (dBin geV f k)) := jtcmp op_ge ge_s ha hb (nomark _)
theorem tin (hu : X.A.units + 64 < cLine) (ha : JR X a f) (hb : JR X b k) (hm : behindInMarks .In b = false := by rfl) : JT X (.Compare a [.In] [b] pos) (tst (dBin inV f k)) := jtcmp ((op_inP hu).or op_in_sign) in_s ha hb hm
theorem tni (hu : X.A.units + 64 < cLine) (ha : JR X a f) (hb : JR X b k) (hm : behindInMarks .NotIn b = false := by rfl) : JT X (.Compare a [.NotIn] [b] pos) (tst (dBin niV f k)) := jtcmp ((op_niP hu).or op_notIn_sign) ni_s ha hb hm
theorem tis (hu : X.A.units + 64 < cLine) (ha : JR X a f) (hb : JR X b k) : JT X (.Compare a [.Is] [b] pos) (tst (dBin isnV f k)) := jtcmp op_isN isn_s ha hb (nomark _)
theorem tisnt (hu : X.A.units + 64 < cLine) (ha : JR X a f) (hb : JR X b k) : JT X (.Compare a [.IsNot] [b] pos) (tst (dBin innV f k)) := jtcmp op_notN inn_s ha hb (nomark _)
/-- a value that is a truth, as a test -/
theorem tval {e : Expr} {f : DE} (h : JV X e f) (he : ∀ whole, isTrue e X.env whole = (do let v ← whole; standAt e.pos; holding [v] (truthy v)) := by intro _; rfl) : JT X e (tst f) :=
  PTi (pt_val h he) fun σ H Q h => tst_run σ H Q h
theorem tvalD {e : Expr} {f : DD} (h : JD X e f) (he : ∀ whole, isTrue e X.env whole = (do let v ← whole; standAt e.pos; holding [v] (truthy v)) := by intro _; rfl) : JT X e (tstD f) :=
  PTi (pt_val h he) fun σ H Q ⟨g, Hs, env, τ, b, τ', r0, hf, q⟩ => by
    obtain ⟨x, τ1, h1, h2⟩ := bnd_eq hf
    refine ⟨g, Hs, env, τ, x, τ1, r0, h1, fun w Hs1 H1 u1 r1 => ?_⟩
    split at h2
    · cases h2
      cases r1
      exact ⟨_, rfl, q Hs1 H1 u1⟩
    · cases h2
/-! chains -/
def dChn (o1 o2 : D → D → Option Vl) (f k m : DD) : DD := fun env τ => bnd (f env τ) fun x τ1 => bnd (k env τ1) fun y τ2 => match o1 x y with
  | some (.sh (.bool true)) => bnd (m env τ2) fun z τ3 => match o2 y z with
    | some (.sh (.bool c)) => some (.bool c, τ3)
    | _ => none
  | some (.sh (.bool false)) => some (.bool false, τ2)
  | _ => none
variable {c : Expr} {m : DD}
theorem chn_run {r r' : R2} {o1 o2 : D → D → Option Vl} (s : OpS r o1) (s' : OpS r' o2) : ∀ σ H Q, tD (dChn o1 o2 f k m) σ H Q → tChain r r' (tR f) (tR k) (tR m) σ H Q := fun σ H Q ⟨g, Hs, env, τ, v, τ', r0, hf, q⟩ => by
  obtain ⟨x, τ1, h1, h2⟩ := bnd_eq hf
  obtain ⟨y, τ2, h3, h4⟩ := bnd_eq h2
  refine ⟨g, Hs, env, τ, x, τ1, r0, h1, fun w Hs1 H1 u1 r1 => ?_⟩
  refine ⟨g, Hs1, env, τ1, y, τ2, r0.up u1, h3, fun w2 Hs2 H2 u2 r2 => ?_⟩
  have u12 := u1.trans u2
  split at h4
  · rename_i e1
    refine s g Hs2 H2 τ2 w w2 x y _ _ u2.le u2.tp (r1.up u2) r2 e1 fun w3 Hs3 H3 u3 rv _ => ?_
    cases rv
    refine ⟨true, rfl, iteT ?_⟩
    obtain ⟨z, τ3, h5, h6⟩ := bnd_eq h4
    refine ⟨g, Hs3, env, τ2, z, τ3, (r0.up u12).up u3, h5, fun w4 Hs4 H4 u4 r4 => ?_⟩
    split at h6
    · rename_i e2
      cases h6
      refine s' g Hs4 H4 _ w2 w4 y z _ _ u4.le u4.tp ((r2.up u3).up u4) r4 e2 fun w5 Hs5 H5 u5 rv5 _ => ?_
      exact q w5 Hs5 H5 (((u12.trans u3).trans u4).trans u5) rv5
    · cases h6
  · rename_i e1
    cases h4
    refine s g Hs2 H2 _ w w2 x y _ _ u2.le u2.tp (r1.up u2) r2 e1 fun w3 Hs3 H3 u3 rv _ => ?_
    cases rv
    exact ⟨false, rfl, iteF (q _ Hs3 H3 (u12.trans u3) (.bl _))⟩
  · cases h4
theorem jchn {op op' : CmpOp} {r r' : R2} {o1 o2 : D → D → Option Vl} (ho : OpR X (compareOp op) r) (ho' : OpR X (compareOp op') r') (s : OpS r o1) (s' : OpS r' o2) (ha : JR X a f) (hb : JR X b k) (hc : JR X c m) (hm : lastMarks [op, op'] [b, c] = false) :
    JD X (.Compare a [op, op'] [b, c] pos) (dChn o1 o2 f k m) := PEi (pe_chain ho ho' ha hb hc hm) (chn_run s s')
theorem tchn {op op' : CmpOp} {r r' : R2} {o1 o2 : D → D → Option Vl} (ho : OpR X (compareOp op) r) (ho' : OpR X (compareOp op') r') (s : OpS r o1) (s' : OpS r' o2) (ha : JR X a f) (hb : JR X b k) (hc : JR X c m) (hm : lastMarks [op, op'] [b, c] = false) :
    JT X (.Compare a [op, op'] [b, c] pos) (tstD (dChn o1 o2 f k m)) := PTi (pt_chain ho ho' ha hb hc hm) fun σ H Q ⟨g, Hs, env, τ, b, τ', r0, hf, q⟩ => by
  obtain ⟨x, τ1, h1, h2⟩ := bnd_eq hf
  refine chn_run s s' σ H _ ⟨g, Hs, env, τ, x, τ1, r0, h1, fun w Hs1 H1 u1 r1 => ?_⟩
  split at h2
  · cases h2
    cases r1
    exact ⟨_, rfl, q Hs1 H1 u1⟩
  · cases h2
/-- a <= b <= c, a <= b < c, a < b < c -/
theorem jchLL (ha : JR X a f) (hb : JR X b k) (hc : JR X c m) (hm : lastMarks [.LtE, .LtE] [b, c] = false := by with_unfolding_all rfl) : JD X (.Compare a [.LtE, .LtE] [b, c] pos) (dChn leV leV f k m) := jchn op_le op_le le_s le_s ha hb hc hm
theorem jchLl (hu : X.A.units + 64 < cLine) (ha : JR X a f) (hb : JR X b k) (hc : JR X c m) (hm : lastMarks [.LtE, .Lt] [b, c] = false := by with_unfolding_all rfl) : JD X (.Compare a [.LtE, .Lt] [b, c] pos) (dChn leV ltV f k m) := jchn op_le (op_ltP hu) le_s lt_s ha hb hc hm
theorem jchll (hu : X.A.units + 64 < cLine) (ha : JR X a f) (hb : JR X b k) (hc : JR X c m) (hm : lastMarks [.Lt, .Lt] [b, c] = false := by with_unfolding_all rfl) : JD X (.Compare a [.Lt, .Lt] [b, c] pos) (dChn ltV ltV f k m) := jchn (op_ltP hu) (op_ltP hu) lt_s lt_s ha hb hc hm
theorem tchLL (ha : JR X a f) (hb : JR X b k) (hc : JR X c m) (hm : lastMarks [.LtE, .LtE] [b, c] = false := by with_unfolding_all rfl) : JT X (.Compare a [.LtE, .LtE] [b, c] pos) (tstD (dChn leV leV f k m)) := tchn op_le op_le le_s le_s ha hb hc hm
theorem tchLl (hu : X.A.units + 64 < cLine) (ha : JR X a f) (hb : JR X b k) (hc : JR X c m) (hm : lastMarks [.LtE, .Lt] [b, c] = false := by with_unfolding_all rfl) : JT X (.Compare a [.LtE, .Lt] [b, c] pos) (tstD (dChn leV ltV f k m)) := tchn op_le (op_ltP hu) le_s lt_s ha hb hc hm
theorem tchll (hu : X.A.units + 64 < cLine) (ha : JR X a f) (hb : JR X b k) (hc : JR X c m) (hm : lastMarks [.Lt, .Lt] [b, c] = false := by with_unfolding_all rfl) : JT X (.Compare a [.Lt, .Lt] [b, c] pos) (tstD (dChn ltV ltV f k m)) := tchn (op_ltP hu) (op_ltP hu) lt_s lt_s ha hb hc hm
end
/-! ### and, or, not, if -/
abbrev JW (X : Cx) (e : Expr) (f : DT) : Prop := PW X e (tB' f)
theorem PWi {X : Cx} {e : Expr} {t t' : TT} (h : PW X e t) (i : ∀ σ H Q, t' σ H Q → t σ H Q) : PW X e t' := ⟨fun whole pins s σ H Q I k => h.run whole pins s σ H Q I (i σ H Q k)⟩
def tnot (f : DT) : DT := fun env τ => bnd (f env τ) fun b τ' => some (!b, τ')
def tand (f k : DT) : DT := fun env τ => bnd (f env τ) fun b τ' => if b = true then k env τ' else some (false, τ')
def tor (f k : DT) : DT := fun env τ => bnd (f env τ) fun b τ' => if b = true then some (true, τ') else k env τ'
def dnot (f : DT) : DD := fun env τ => bnd (f env τ) fun b τ' => some (.bool (!b), τ')
def dand (f : DD) (k : DD) : DD := fun env τ => bnd (f env τ) fun x τ' => match x with
  | .bool true => k env τ'
  | .bool false => some (.bool false, τ')
  | _ => none
def dor (f : DD) (k : DD) : DD := fun env τ => bnd (f env τ) fun x τ' => match x with
  | .bool false => k env τ'
  | .bool true => some (.bool true, τ')
  | _ => none
def dif (c : DT) (f k : DD) : DD := fun env τ => bnd (c env τ) fun b τ' => if b = true then f env τ' else k env τ'
def vif (c : DT) (f k : DE) : DE := fun env τ => bnd (c env τ) fun b τ' => if b = true then f env τ' else k env τ'
section
variable {X : Cx} {a b c : Expr} {pos : Pos} {rest : List Expr}
theorem jtnot {f : DT} (ha : JT X a f) : JT X (.UnaryOp .Not a pos) (tnot f) := PTi (pt_not ha) fun σ H Q ⟨g, Hs, env, τ, b, τ', r0, hf, q⟩ => by
  obtain ⟨x, τ1, h1, h2⟩ := bnd_eq hf
  cases h2
  exact ⟨g, Hs, env, τ, x, _, r0, h1, q⟩
theorem jwand1 {f : DT} (ha : JT X a f) : JW X (.BoolOp .And [a] pos) f := pw_and1 ha
theorem jwor1 {f : DT} (ha : JT X a f) : JW X (.BoolOp .Or [a] pos) f := pw_or1 ha
theorem jwand {f k : DT} (ha : JT X a f) (hb : JW X (.BoolOp .And (b :: rest) pos) k) : JW X (.BoolOp .And (a :: b :: rest) pos) (tand f k) := PWi (pw_and ha hb) fun σ H Q ⟨g, Hs, env, τ, b, τ', r0, hf, q⟩ => by
  obtain ⟨x, τ1, h1, h2⟩ := bnd_eq hf
  refine ⟨g, Hs, env, τ, x, τ1, r0, h1, fun Hs1 H1 u1 => ?_⟩
  cases x with
  | true => exact iteT ⟨g, Hs1, env, τ1, b, τ', r0.up u1, h2, fun Hs2 H2 u2 => q Hs2 H2 (u1.trans u2)⟩
  | false => cases h2; exact iteF (q Hs1 H1 u1)
theorem jwor {f k : DT} (ha : JT X a f) (hb : JW X (.BoolOp .Or (b :: rest) pos) k) : JW X (.BoolOp .Or (a :: b :: rest) pos) (tor f k) := PWi (pw_or ha hb) fun σ H Q ⟨g, Hs, env, τ, b, τ', r0, hf, q⟩ => by
  obtain ⟨x, τ1, h1, h2⟩ := bnd_eq hf
  refine ⟨g, Hs, env, τ, x, τ1, r0, h1, fun Hs1 H1 u1 => ?_⟩
  cases x with
  | false => exact iteF ⟨g, Hs1, env, τ1, b, τ', r0.up u1, h2, fun Hs2 H2 u2 => q Hs2 H2 (u1.trans u2)⟩
  | true => cases h2; exact iteT (q Hs1 H1 u1)
theorem jtw {f : DT} (h : JW X a f) : JT X a f := PW.pt h
theorem jnot {f : DT} {f' : DD} (ha : JD X a f') : JD X (.UnaryOp .Not a pos) (dnot (tstD f')) := PEi (pe_not ha) fun σ H Q ⟨g, Hs, env, τ, d, τ', r0, hf, q⟩ => by
  obtain ⟨b, τ1, h1, h2⟩ := bnd_eq hf
  obtain ⟨x, τ2, h3, h4⟩ := bnd_eq h1
  cases h2
  refine ⟨g, Hs, env, τ, x, τ2, r0, h3, fun w Hs1 H1 u1 r1 => ?_⟩
  split at h4
  · cases h4
    cases r1
    exact ⟨_, rfl, q _ Hs1 H1 u1 (.bl _)⟩
  · cases h4
theorem jbone {op : PySem.BoolOp} {f : DD} (h : JD X a f) : JD X (.BoolOp op [a] pos) f := pe_one h
theorem jand {f k : DD} (ha : JD X a f) (hb : JD X (.BoolOp .And (b :: rest) pos) k) : JD X (.BoolOp .And (a :: b :: rest) pos) (dand f k) := PEi (pe_and ha hb) fun σ H Q ⟨g, Hs, env, τ, d, τ', r0, hf, q⟩ => by
  obtain ⟨x, τ1, h1, h2⟩ := bnd_eq hf
  refine ⟨g, Hs, env, τ, x, τ1, r0, h1, fun w Hs1 H1 u1 r1 => ?_⟩
  split at h2
  · cases r1
    exact ⟨true, rfl, iteT ⟨g, Hs1, env, τ1, d, τ', r0.up u1, h2, fun w2 Hs2 H2 u2 => q w2 Hs2 H2 (u1.trans u2)⟩⟩
  · cases r1
    cases h2
    exact ⟨false, rfl, iteF (q _ Hs1 H1 u1 (.bl _))⟩
  · cases h2
theorem jor {f k : DD} (ha : JD X a f) (hb : JD X (.BoolOp .Or (b :: rest) pos) k) : JD X (.BoolOp .Or (a :: b :: rest) pos) (dor f k) := PEi (pe_or ha hb) fun σ H Q ⟨g, Hs, env, τ, d, τ', r0, hf, q⟩ => by
  obtain ⟨x, τ1, h1, h2⟩ := bnd_eq hf
  refine ⟨g, Hs, env, τ, x, τ1, r0, h1, fun w Hs1 H1 u1 r1 => ?_⟩
  split at h2
  · cases r1
    exact ⟨false, rfl, iteF ⟨g, Hs1, env, τ1, d, τ', r0.up u1, h2, fun w2 Hs2 H2 u2 => q w2 Hs2 H2 (u1.trans u2)⟩⟩
  · cases r1
    cases h2
    exact ⟨true, rfl, iteT (q _ Hs1 H1 u1 (.bl _))⟩
  · cases h2
theorem jif {ct : DT} {f k : DD} (hc : JT X c ct) (ha : JD X a f) (hb : JD X b k) : JD X (.IfExp c a b pos) (dif ct f k) := PEi (pe_ifExp hc ha hb) fun σ H Q ⟨g, Hs, env, τ, d, τ', r0, hf, q⟩ => by
  obtain ⟨x, τ1, h1, h2⟩ := bnd_eq hf
  refine ⟨g, Hs, env, τ, x, τ1, r0, h1, fun Hs1 H1 u1 => ?_⟩
  cases x with
  | true => exact iteT ⟨g, Hs1, env, τ1, d, τ', r0.up u1, h2, fun w2 Hs2 H2 u2 => q w2 Hs2 H2 (u1.trans u2)⟩
  | false => exact iteF ⟨g, Hs1, env, τ1, d, τ', r0.up u1, h2, fun w2 Hs2 H2 u2 => q w2 Hs2 H2 (u1.trans u2)⟩
theorem jvif {ct : DT} {f k : DE} (hc : JT X c ct) (ha : JV X a f) (hb : JV X b k) : JV X (.IfExp c a b pos) (vif ct f k) := PEi (pe_ifExp hc ha hb) fun σ H Q ⟨g, Hs, env, τ, d, τ', r0, hf, q⟩ => by
  obtain ⟨x, τ1, h1, h2⟩ := bnd_eq hf
  refine ⟨g, Hs, env, τ, x, τ1, r0, h1, fun Hs1 H1 u1 => ?_⟩
  cases x with
  | true => exact iteT ⟨g, Hs1, env, τ1, d, τ', r0.up u1, h2, fun w2 Hs2 H2 u2 rv fr => q w2 Hs2 H2 (u1.trans u2) rv fun ho p e => u1.old (fr ho p e)⟩
  | false => exact iteF ⟨g, Hs1, env, τ1, d, τ', r0.up u1, h2, fun w2 Hs2 H2 u2 rv fr => q w2 Hs2 H2 (u1.trans u2) rv fun ho p e => u1.old (fr ho p e)⟩
end
end Pv
namespace Pv
open PySem L2 PySem.Spec PyProof.Rows
def CallS (r : List V → Hp → VK → Prop) (cV : List D → Option Vl) : Prop := ∀ (g : G) (Hs H : Hp) (τ : Tp) (ws : List V) (ds : List D) (v : Vl) (Q : VK), Same Hs H → TpOk g Hs H τ → Rdbs g.aT Hs H ws ds → cV ds = some v → Gives g Hs H τ v Q → r ws H Q
def dCl (cV : List D → Option Vl) (k : DA) : DE := fun env τ => bnd (k env τ) fun ds τ1 => (cV ds).map (·, τ1)
section
variable {X : Cx} {x : Str} {p pos : Pos} {e : Expr} {es : List Expr} {k : DA} {id T : String} {r : List V → Hp → VK → Prop} {cV : List D → Option Vl}
theorem callS_run {k : DA} (s : CallS r cV) : ∀ σ H Q, tV (dCl cV k) σ H Q → tCB r (tRs k) σ H Q := fun σ H Q ⟨g, Hs, env, τ, v, τ', r0, hf, q⟩ => by
  obtain ⟨ds, τ1, h1, h2⟩ := bnd_eq hf
  have h5 : cV ds = some v ∧ τ1 = τ' := by
    cases e : cV ds with
    | none => rw [e] at h2; cases h2
    | some z => rw [e] at h2; cases h2; exact ⟨rfl, rfl⟩
  obtain ⟨h5, rfl⟩ := h5
  refine ⟨g, Hs, env, τ, ds, τ1, r0, h1, fun ws Hs1 H1 u1 r1 => ?_⟩
  refine s g Hs1 H1 τ1 ws ds v Q u1.le u1.tp r1 h5 fun w Hs2 H2 u2 rv fr => q w Hs2 H2 (u1.trans u2) rv fun ho p e => u1.old (fr ho p e)
theorem jcB (hc : CallR X (.builtin id) r) (s : CallS r cV) (ha : JRs X (e :: es) k) (hg : Gl X x) (hm : X.mg x = none) (hv : bootBuiltins x = some (.builtin id)) (hn : x ≠ "__name__" := by decide) (hdb : (x == ("__debug__" : Str)) = false := by decide)
    (he : starEach (e :: es) X.env = (false, eval e X.env) :: starEach es X.env := by rfl) (hpl : (backTo pos (starEach es X.env)).any (·.1) = false := by rfl) : JV X (.Call (.Name x p) (e :: es) [] pos) (dCl cV k) :=
  PEi (pe_callB hc hg hm hv ha hn hdb he hpl) (callS_run s)
theorem jcT (hc : CallR X (.type T) r) (s : CallS r cV) (ha : JRs X (e :: es) k) (hg : Gl X x) (hm : X.mg x = none) (hv : bootBuiltins x = some (.type T)) (hn : x ≠ "__name__" := by decide) (hdb : (x == ("__debug__" : Str)) = false := by decide)
    (he : starEach (e :: es) X.env = (false, eval e X.env) :: starEach es X.env := by rfl) (hpl : (backTo pos (starEach es X.env)).any (·.1) = false := by rfl) : JV X (.Call (.Name x p) (e :: es) [] pos) (dCl cV k) :=
  PEi (pe_callTy hc hg hm hv ha hn hdb he hpl) (callS_run s)
end
theorem rdb1 {aT : Addr} {Hs H : Hp} {ws : List V} {d : D} (r : Rdbs aT Hs H ws [d]) : ∃ w, ws = [w] ∧ Rdb aT Hs H w d := by
  cases r with
  | cons a b => cases b; exact ⟨_, rfl, a⟩
theorem rdb2 {aT : Addr} {Hs H : Hp} {ws : List V} {d e : D} (r : Rdbs aT Hs H ws [d, e]) : ∃ w v, ws = [w, v] ∧ Rdb aT Hs H w d ∧ Rdb aT Hs H v e := by
  cases r with
  | cons a b =>
    obtain ⟨v, rfl, c⟩ := rdb1 b
    exact ⟨_, _, rfl, a, c⟩
theorem rdb3 {aT : Addr} {Hs H : Hp} {ws : List V} {d e f : D} (r : Rdbs aT Hs H ws [d, e, f]) : ∃ w v u, ws = [w, v, u] ∧ Rdb aT Hs H w d ∧ Rdb aT Hs H v e ∧ Rdb aT Hs H u f := by
  cases r with
  | cons a b =>
    obtain ⟨v, u, rfl, c, d⟩ := rdb2 b
    exact ⟨_, _, _, rfl, a, c, d⟩
/-! ### len -/
def lenV (ds : List D) : Option Vl := match ds with
  | [.list xs] => some (.sh (.int xs.length))
  | [.tuple xs] => some (.sh (.int xs.length))
  | [.str x] => if x.length ≤ 16777216 then some (.sh (.int x.length)) else none
  | _ => none
theorem len_s {K : PySem.W.Frag} : CallS (fun xs H Q => ∃ x n, xs = [x] ∧ LenV K x H n ∧ Q (.int n) H) lenV := by
  intro g Hs H τ ws ds v Q le tp r e q
  unfold lenV at e
  split at e
  · cases e
    obtain ⟨w, rfl, r1⟩ := rdb1 r
    obtain ⟨p, xs, rfl, hp, hl, hr⟩ := r1.list le
    refine ⟨_, _, rfl, .inl ⟨xs, .of hp, hr.len.symm⟩, q.d le tp (.int _)⟩
  · cases e
    obtain ⟨w, rfl, r1⟩ := rdb1 r
    obtain ⟨p, xs, rfl, hp, hl, hr⟩ := r1.tuple
    refine ⟨_, _, rfl, .inr ⟨xs, .of (le _ _ hp), hr.len.symm⟩, q.d le tp (.int _)⟩
  · split at e
    · cases e
      obtain ⟨w, rfl, r1⟩ := rdb1 r
      have := r1.str
      subst this
      refine ⟨_, _, rfl, ⟨by rw [line_eq]; assumption, rfl⟩, q.d le tp (.int _)⟩
    · cases e
  · cases e
/-! ### abs, min, max -/
def absI (i : Int) : Int := if i < 0 then -i else i
def absC (ds : List D) : Option Vl := match ds with
  | [.int i] => some (.sh (.int (absI i)))
  | _ => none
theorem abs_s : CallS (fun xs H Q => ∃ i, xs = [.int i] ∧ Q (.int (if i < 0 then -i else i)) H) absC := by
  intro g Hs H τ ws ds v Q le tp r e q
  unfold absC at e
  split at e
  · cases e
    obtain ⟨w, rfl, r1⟩ := rdb1 r
    exact ⟨_, by rw [r1.int], q.d le tp (.int _)⟩
  · cases e
def max2 (ds : List D) : Option Vl := match ds with
  | [.int i, .int j] => some (.sh (.int (if j > i then j else i)))
  | _ => none
def min2 (ds : List D) : Option Vl := match ds with
  | [.int i, .int j] => some (.sh (.int (if j < i then j else i)))
  | _ => none
theorem max2_s : CallS (fun xs H Q => ∃ i j, xs = [.int i, .int j] ∧ Q (.int (if j > i then j else i)) H) max2 := by
  intro g Hs H τ ws ds v Q le tp r e q
  unfold max2 at e
  split at e
  · cases e
    obtain ⟨w, u, rfl, r1, r2⟩ := rdb2 r
    exact ⟨_, _, by rw [r1.int, r2.int], q.d le tp (.int _)⟩
  · cases e
theorem min2_s : CallS (fun xs H Q => ∃ i j, xs = [.int i, .int j] ∧ Q (.int (if j < i then j else i)) H) min2 := by
  intro g Hs H τ ws ds v Q le tp r e q
  unfold min2 at e
  split at e
  · cases e
    obtain ⟨w, u, rfl, r1, r2⟩ := rdb2 r
    exact ⟨_, _, by rw [r1.int, r2.int], q.d le tp (.int _)⟩
  · cases e
/-! min, max of a list (or tuple) of alike data -/
def alk (xs : List D) : Bool := xs.all fun x => nn x && xs.all fun y => W.alike x y
theorem alk_of {xs : List D} (h : alk xs = true) : W.AlikeAll xs := by
  unfold alk at h
  rw [List.all_eq_true] at h
  refine ⟨fun x hx y hy => ?_, fun x hx => ?_⟩
  · have := h x hx
    rw [Bool.and_eq_true, List.all_eq_true] at this
    exact this.2 y hy
  · have := h x hx
    rw [Bool.and_eq_true] at this
    exact nn_ne this.1
def minL (ds : List D) : Option Vl := match ds with
  | [.list (x :: xs)] => if alk (x :: xs) = true ∧ PyData.depthAll (x :: xs) ≤ 60 then some (.sh (W.minD x xs)) else none
  | [.tuple (x :: xs)] => if alk (x :: xs) = true ∧ PyData.depthAll (x :: xs) ≤ 60 then some (.sh (W.minD x xs)) else none
  | _ => none
def maxL (ds : List D) : Option Vl := match ds with
  | [.list (x :: xs)] => if alk (x :: xs) = true ∧ PyData.depthAll (x :: xs) ≤ 60 then some (.sh (W.maxD x xs)) else none
  | [.tuple (x :: xs)] => if alk (x :: xs) = true ∧ PyData.depthAll (x :: xs) ≤ 60 then some (.sh (W.maxD x xs)) else none
  | _ => none
/-- the least (greatest) item, as it stands -/
def rPick (pick : D → List D → D) : List V → Hp → VK → Prop := fun vs H Q => ∃ (a : Addr) (xs : List V) (x : D) (ds : List D) (K : PySem.W.Frag), vs = [V.ref a] ∧ (H a = some (.lst xs) ∨ H a = some (.tup xs)) ∧ DpAll K H xs (x :: ds) ∧ alk (x :: ds) = true ∧ PyData.depthAll (x :: ds) ≤ 60 ∧
  ∀ (i : Nat) (w : V), xs[i]? = some w → (x :: ds)[i]? = some (pick x ds) → Q w H
theorem dpAll_get {K : PySem.W.Frag} {H : Hp} : ∀ {vs : List V} {ds : List D} {i : Nat} {v : V}, DpAll K H vs ds → vs[i]? = some v → ∃ d, ds[i]? = some d ∧ Dp K H v d
  | _, _, _, _, .nil, e => by simp at e
  | _, _, 0, v, .cons h1 h2, e => by simp at e; subst e; exact ⟨_, rfl, h1⟩
  | _, _, i + 1, v, .cons h1 h2, e => by
    obtain ⟨d, h3, h4⟩ := dpAll_get (i := i) (v := v) h2 (by simpa using e)
    exact ⟨d, by simpa using h3, h4⟩
section
variable {X : Cx}
theorem vals_at : ∀ {xs : List V} {us : List Value} {i : Nat} {u : Value}, Vals xs us → us[i]? = some u → ∃ x, xs[i]? = some x ∧ RelV x u
  | _, _, _, _, .nil, e => by simp at e
  | _, _, 0, _, .cons r _, e => by simp at e; subst e; exact ⟨_, rfl, r⟩
  | _, _, i + 1, u, .cons _ t, e => by
    obtain ⟨x, h1, h2⟩ := vals_at (i := i) (u := u) t (by simpa using e)
    exact ⟨x, by simpa using h1, h2⟩
theorem pick_run {K0 : PySem.W.Frag} {pins : List (Addr × Obj)} {s : Shared} {σ : Sl} {H : Hp} {Q : VK} {xs : List V} {its : List Value} {x m : D} {ds : List D} (I : Inv X pins σ H s) (hK : DpAll X.K H xs (x :: ds)) (rv : Vals xs its)
    (q : ∀ (i : Nat) (w : V), xs[i]? = some w → (x :: ds)[i]? = some m → Q w H) :
    ∀ (i : Nat) (v : Value) (h' : Heap) (tk : Nat) (bs : List Addr), its.toArray[i]? = some v → Reads h' v m bs → (∀ b o, s.heap.get? b = some o → h'.get? b = some o) → EP X pins σ Q v { s with heap := h', toks := tk } := by
  intro i v h' tk bs hi hr hk
  have hi' : its[i]? = some v := by simpa using hi
  obtain ⟨w, hw, rw'⟩ := vals_at rv hi'
  have I' : Inv X pins σ H { s with heap := h', toks := tk } := I.kept hk
  obtain ⟨d, hd, hdp⟩ := dpAll_get hK hw
  obtain ⟨as, hrd⟩ := L2.Dp.reads I' d w v hdp rw'
  have e := SeqAt.plain_unique d m v as bs (Dp.plain d w hdp) hrd hr
  subst e
  exact ⟨w, H, I', rw', q i w hw hd⟩
theorem dpK {K K' : PySem.W.Frag} {H : Hp} {xs : List V} {ds : List D} {Hs : Hp} (h : Rps Hs xs ds) (le : Same Hs H) : DpAll K H xs ds := Rps.dp _ _ (h.to le)
def rPickK (K : PySem.W.Frag) (pick : D → List D → D) : List V → Hp → VK → Prop := fun vs H Q => ∃ (a : Addr) (xs : List V) (x : D) (ds : List D), vs = [V.ref a] ∧ (SqL K H a xs ∨ SqT K H a xs) ∧ DpAll K H xs (x :: ds) ∧ alk (x :: ds) = true ∧ PyData.depthAll (x :: ds) ≤ 60 ∧
  ∀ (i : Nat) (w : V), xs[i]? = some w → (x :: ds)[i]? = some (pick x ds) → Q w H
theorem room61 {n : Nat} (hu : X.A.units + 64 < cLine) (h : n ≤ 60) : X.A.units + 1 + n < cLine := Nat.lt_of_le_of_lt (by omega) hu
theorem cr_minL (hc : X.calm = true) (hu : X.A.units + 64 < cLine) : CallR X (.builtin "min") (rPickK X.K W.minD) := by
  intro pins s σ H vs us Q I r h
  obtain ⟨a, xs, x, ds, rfl, hs, hK, ha, hd, q⟩ := h
  rw [Vals.ref1 r]
  rcases hs with hs | hs
  · obtain ⟨its, rv, hl, _⟩ := I.list hs
    obtain ⟨as, hr⟩ := L2.Dp.readsAll I _ _ its hK rv
    exact W.min_list_data (I.ok.hd hc) hl.isList (vs := its.toArray) hr (alk_of ha) (room61 hu hd) (pick_run (K0 := X.K) I hK rv q)
  · obtain ⟨its, rv, hl, _⟩ := I.tuple hs
    obtain ⟨as, hr⟩ := L2.Dp.readsAll I _ _ its hK rv
    exact W.min_tuple_data (I.ok.hd hc) (show s.heap.IsTuple a its.toArray from hl) (vs := its.toArray) hr (alk_of ha) (room61 hu hd) (pick_run (K0 := X.K) I hK rv q)
theorem cr_maxL (hc : X.calm = true) (hu : X.A.units + 64 < cLine) : CallR X (.builtin "max") (rPickK X.K W.maxD) := by
  intro pins s σ H vs us Q I r h
  obtain ⟨a, xs, x, ds, rfl, hs, hK, ha, hd, q⟩ := h
  rw [Vals.ref1 r]
  rcases hs with hs | hs
  · obtain ⟨its, rv, hl, _⟩ := I.list hs
    obtain ⟨as, hr⟩ := L2.Dp.readsAll I _ _ its hK rv
    exact W.max_list_data (I.ok.hd hc) hl.isList (vs := its.toArray) hr (alk_of ha) (room61 hu hd) (pick_run (K0 := X.K) I hK rv q)
  · obtain ⟨its, rv, hl, _⟩ := I.tuple hs
    obtain ⟨as, hr⟩ := L2.Dp.readsAll I _ _ its hK rv
    exact W.max_tuple_data (I.ok.hd hc) (show s.heap.IsTuple a its.toArray from hl) (vs := its.toArray) hr (alk_of ha) (room61 hu hd) (pick_run (K0 := X.K) I hK rv q)
theorem pick_s {K : PySem.W.Frag} {pick : D → List D → D} {cV : List D → Option Vl}
    (hc : ∀ ds v, cV ds = some v → ∃ x xs, (ds = [.list (x :: xs)] ∨ ds = [.tuple (x :: xs)]) ∧ alk (x :: xs) = true ∧ PyData.depthAll (x :: xs) ≤ 60 ∧ v = .sh (pick x xs)) : CallS (rPickK K pick) cV := by
  intro g Hs H τ ws ds v Q le tp r e q
  obtain ⟨x, xs, hds, ha, hd, rfl⟩ := hc ds v e
  rcases hds with rfl | rfl
  · obtain ⟨w, rfl, r1⟩ := rdb1 r
    obtain ⟨p, vs, rfl, hp, hl, hr⟩ := r1.list le
    refine ⟨p, vs, x, xs, rfl, .inl (.of hp), Rps.dp _ _ (hr.to le), ha, hd, fun i w hw hi => ?_⟩
    obtain ⟨d, hd', hrp⟩ := hr.get' hw
    rw [hi] at hd'
    cases hd'
    exact q.d le tp hrp
  · obtain ⟨w, rfl, r1⟩ := rdb1 r
    obtain ⟨p, vs, rfl, hp, hl, hr⟩ := r1.tuple
    refine ⟨p, vs, x, xs, rfl, .inr (.of (le _ _ hp)), Rps.dp _ _ (hr.to le), ha, hd, fun i w hw hi => ?_⟩
    obtain ⟨d, hd', hrp⟩ := hr.get' hw
    rw [hi] at hd'
    cases hd'
    exact q.d le tp hrp
theorem minL_s {K : PySem.W.Frag} : CallS (rPickK K W.minD) minL := pick_s fun ds v e => by
  unfold minL at e
  split at e
  · split at e
    · rename_i hc; cases e; exact ⟨_, _, .inl rfl, hc.1, hc.2, rfl⟩
    · cases e
  · split at e
    · rename_i hc; cases e; exact ⟨_, _, .inr rfl, hc.1, hc.2, rfl⟩
    · cases e
  · cases e
theorem maxL_s {K : PySem.W.Frag} : CallS (rPickK K W.maxD) maxL := pick_s fun ds v e => by
  unfold maxL at e
  split at e
  · split at e
    · rename_i hc; cases e; exact ⟨_, _, .inl rfl, hc.1, hc.2, rfl⟩
    · cases e
  · split at e
    · rename_i hc; cases e; exact ⟨_, _, .inr rfl, hc.1, hc.2, rfl⟩
    · cases e
  · cases e
end
/-! ### int(b), sum, any, all -/
def intC (ds : List D) : Option Vl := match ds with
  | [.int i] => some (.sh (.int i))
  | [.bool b] => some (.sh (.int (if b then 1 else 0)))
  | _ => none
theorem int_s : CallS (fun xs H Q => (∃ i, xs = [.int i] ∧ Q (.int i) H) ∨ ∃ k, xs = [.bl k] ∧ Q (.int (if k then 1 else 0)) H) intC := by
  intro g Hs H τ ws ds v Q le tp r e q
  unfold intC at e
  split at e
  · cases e
    obtain ⟨w, rfl, r1⟩ := rdb1 r
    exact .inl ⟨_, by rw [r1.int], q.d le tp (.int _)⟩
  · cases e
    obtain ⟨w, rfl, r1⟩ := rdb1 r
    exact .inr ⟨_, by rw [r1.bool], q.d le tp (.int _)⟩
  · cases e
/-- a list of ints, of truths -/
def toInts : List D → Option (List Int)
  | [] => some []
  | .int i :: r => (toInts r).map (i :: ·)
  | _ :: _ => none
def toBls : List D → Option (List Bool)
  | [] => some []
  | .bool i :: r => (toBls r).map (i :: ·)
  | _ :: _ => none
theorem toInts_eq : ∀ {xs : List D} {ns : List Int}, toInts xs = some ns → xs = ns.map PyData.int
  | [], ns, h => by cases h; rfl
  | .int i :: r, ns, h => by
    unfold toInts at h
    cases e : toInts r with
    | none => rw [e] at h; cases h
    | some m => rw [e] at h; cases h; rw [toInts_eq e]; rfl
  | .none :: r, ns, h => by cases h
  | .bool _ :: r, ns, h => by cases h
  | .str _ :: r, ns, h => by cases h
  | .list _ :: r, ns, h => by cases h
  | .tuple _ :: r, ns, h => by cases h
  | .dict _ :: r, ns, h => by cases h
theorem toBls_eq : ∀ {xs : List D} {ns : List Bool}, toBls xs = some ns → xs = ns.map PyData.bool
  | [], ns, h => by cases h; rfl
  | .bool i :: r, ns, h => by
    unfold toBls at h
    cases e : toBls r with
    | none => rw [e] at h; cases h
    | some m => rw [e] at h; cases h; rw [toBls_eq e]; rfl
  | .none :: r, ns, h => by cases h
  | .int _ :: r, ns, h => by cases h
  | .str _ :: r, ns, h => by cases h
  | .list _ :: r, ns, h => by cases h
  | .tuple _ :: r, ns, h => by cases h
  | .dict _ :: r, ns, h => by cases h
theorem toInts_map : ∀ ns : List Int, toInts (ns.map PyData.int) = some ns
  | [] => rfl
  | n :: ns => by
    show (toInts (ns.map PyData.int)).map (n :: ·) = _
    rw [toInts_map ns]; rfl
theorem toBls_map : ∀ ns : List Bool, toBls (ns.map PyData.bool) = some ns
  | [] => rfl
  | n :: ns => by
    show (toBls (ns.map PyData.bool)).map (n :: ·) = _
    rw [toBls_map ns]; rfl
def sumC (ds : List D) : Option Vl := match ds with
  | [.list xs] => (toInts xs).map fun ns => .sh (.int ns.sum)
  | _ => none
def anyC (ds : List D) : Option Vl := match ds with
  | [.list xs] => (toBls xs).map fun ns => .sh (.bool (ns.any id))
  | _ => none
def allC (ds : List D) : Option Vl := match ds with
  | [.list xs] => (toBls xs).map fun ns => .sh (.bool (ns.all id))
  | _ => none
theorem sum_s {K : PySem.W.Frag} : CallS (rSum K) sumC := by
  intro g Hs H τ ws ds v Q le tp r e q
  unfold sumC at e
  split at e
  · rename_i xs
    cases en : toInts xs with
    | none => rw [en] at e; cases e
    | some ns =>
      rw [en] at e; cases e
      have := toInts_eq en
      subst this
      obtain ⟨w, rfl, r1⟩ := rdb1 r
      obtain ⟨p, vs, rfl, hp, hl, hr⟩ := r1.list le
      have := hr.to_ints
      subst this
      exact ⟨p, ns, rfl, .of hp, q.d le tp (.int _)⟩
  · cases e
theorem any_s {K : PySem.W.Frag} : CallS (rAny K) anyC := by
  intro g Hs H τ ws ds v Q le tp r e q
  unfold anyC at e
  split at e
  · rename_i xs
    cases en : toBls xs with
    | none => rw [en] at e; cases e
    | some ns =>
      rw [en] at e; cases e
      have := toBls_eq en
      subst this
      obtain ⟨w, rfl, r1⟩ := rdb1 r
      obtain ⟨p, vs, rfl, hp, hl, hr⟩ := r1.list le
      have := hr.to_bls
      subst this
      exact ⟨p, ns, rfl, .of hp, q.d le tp (.bl _)⟩
  · cases e
theorem all_s {K : PySem.W.Frag} : CallS (rAll K) allC := by
  intro g Hs H τ ws ds v Q le tp r e q
  unfold allC at e
  split at e
  · rename_i xs
    cases en : toBls xs with
    | none => rw [en] at e; cases e
    | some ns =>
      rw [en] at e; cases e
      have := toBls_eq en
      subst this
      obtain ⟨w, rfl, r1⟩ := rdb1 r
      obtain ⟨p, vs, rfl, hp, hl, hr⟩ := r1.list le
      have := hr.to_bls
      subst this
      exact ⟨p, ns, rfl, .of hp, q.d le tp (.bl _)⟩
  · cases e
/-! ### list(x), tuple(x) -/
def listC (ds : List D) : Option Vl := match ds with
  | [.list xs] => some (.ow xs)
  | [.tuple xs] => some (.ow xs)
  | _ => none
def tupC (ds : List D) : Option Vl := match ds with
  | [.list xs] => some (.sh (.tuple xs))
  | [.tuple xs] => some (.sh (.tuple xs))
  | _ => none
theorem list_s {K : PySem.W.Frag} : CallS (fun xs H Q => ∃ p ys, xs = [.ref p] ∧ (SqL K H p ys ∨ SqT K H p ys) ∧ ∀ l, H l = none → Q (.ref l) (upd H l (.lst ys))) listC := by
  intro g Hs H τ ws ds v Q le tp r e q
  unfold listC at e
  split at e
  · cases e
    obtain ⟨w, rfl, r1⟩ := rdb1 r
    obtain ⟨p, vs, rfl, hp, hl, hr⟩ := r1.list le
    exact ⟨p, vs, rfl, .inl (.of hp), fun l hp' => q.lst le tp hl hr l hp'⟩
  · cases e
    obtain ⟨w, rfl, r1⟩ := rdb1 r
    obtain ⟨p, vs, rfl, hp, hl, hr⟩ := r1.tuple
    exact ⟨p, vs, rfl, .inr (.of (le _ _ hp)), fun l hp' => q.lst le tp hl hr l hp'⟩
  · cases e
theorem tup_s {K : PySem.W.Frag} : CallS (fun xs H Q => ∃ p ys, xs = [.ref p] ∧ ((SqL K H p ys ∧ ∀ l, H l = none → Q (.ref l) (upd H l (.tup ys))) ∨ (SqT K H p ys ∧ Q (.ref p) H))) tupC := by
  intro g Hs H τ ws ds v Q le tp r e q
  unfold tupC at e
  split at e
  · cases e
    obtain ⟨w, rfl, r1⟩ := rdb1 r
    obtain ⟨p, vs, rfl, hp, hl, hr⟩ := r1.list le
    exact ⟨p, vs, rfl, .inl ⟨.of hp, fun l hp' => q.tup le tp hl hr l hp'⟩⟩
  · cases e
    obtain ⟨w, rfl, r1⟩ := rdb1 r
    obtain ⟨p, vs, rfl, hp, hl, hr⟩ := r1.tuple
    exact ⟨p, vs, rfl, .inr ⟨.of (le _ _ hp), q.d le tp (.tup hp hl hr)⟩⟩
  · cases e
/-! ### the rules, by name -/
section
variable {X : Cx} {p pos : Pos} {e e2 : Expr} {k : DA}
theorem jlen (hm : X.mg "len" = none) (ha : JRs X [e] k) (hg : Gl X "len" := by rfl) (he : starEach [e] X.env = (false, eval e X.env) :: starEach [] X.env := by rfl) (hpl : (backTo pos (starEach [] X.env)).any (·.1) = false := by rfl) : JV X (.Call (.Name "len" p) [e] [] pos) (dCl lenV k) :=
  jcB call_len len_s ha hg hm boot_len (by decide) (by decide) he hpl
theorem jabs (hm : X.mg "abs" = none) (ha : JRs X [e] k) (hg : Gl X "abs" := by rfl) (he : starEach [e] X.env = (false, eval e X.env) :: starEach [] X.env := by rfl) (hpl : (backTo pos (starEach [] X.env)).any (·.1) = false := by rfl) : JV X (.Call (.Name "abs" p) [e] [] pos) (dCl absC k) :=
  jcB call_abs abs_s ha hg hm (by decide +kernel) (by decide) (by decide) he hpl
theorem jmax2 (hm : X.mg "max" = none) (ha : JRs X [e, e2] k) (hc : X.calm = true := by rfl) (hg : Gl X "max" := by rfl) (he : starEach [e, e2] X.env = (false, eval e X.env) :: starEach [e2] X.env := by rfl) (hpl : (backTo pos (starEach [e2] X.env)).any (·.1) = false := by rfl) : JV X (.Call (.Name "max" p) [e, e2] [] pos) (dCl max2 k) :=
  jcB (call_max2 hc) max2_s ha hg hm (by decide +kernel) (by decide) (by decide) he hpl
theorem jmin2 (hm : X.mg "min" = none) (ha : JRs X [e, e2] k) (hc : X.calm = true := by rfl) (hg : Gl X "min" := by rfl) (he : starEach [e, e2] X.env = (false, eval e X.env) :: starEach [e2] X.env := by rfl) (hpl : (backTo pos (starEach [e2] X.env)).any (·.1) = false := by rfl) : JV X (.Call (.Name "min" p) [e, e2] [] pos) (dCl min2 k) :=
  jcB (call_min2 hc) min2_s ha hg hm (by decide +kernel) (by decide) (by decide) he hpl
theorem jminL (hm : X.mg "min" = none) (hu : X.A.units + 64 < cLine) (ha : JRs X [e] k) (hc : X.calm = true := by rfl) (hg : Gl X "min" := by rfl) (he : starEach [e] X.env = (false, eval e X.env) :: starEach [] X.env := by rfl) (hpl : (backTo pos (starEach [] X.env)).any (·.1) = false := by rfl) : JV X (.Call (.Name "min" p) [e] [] pos) (dCl minL k) :=
  jcB (cr_minL hc hu) minL_s ha hg hm (by decide +kernel) (by decide) (by decide) he hpl
theorem jmaxL (hm : X.mg "max" = none) (hu : X.A.units + 64 < cLine) (ha : JRs X [e] k) (hc : X.calm = true := by rfl) (hg : Gl X "max" := by rfl) (he : starEach [e] X.env = (false, eval e X.env) :: starEach [] X.env := by rfl) (hpl : (backTo pos (starEach [] X.env)).any (·.1) = false := by rfl) : JV X (.Call (.Name "max" p) [e] [] pos) (dCl maxL k) :=
  jcB (cr_maxL hc hu) maxL_s ha hg hm (by decide +kernel) (by decide) (by decide) he hpl
theorem jintc (hm : X.mg "int" = none) (ha : JRs X [e] k) (hg : Gl X "int" := by rfl) (he : starEach [e] X.env = (false, eval e X.env) :: starEach [] X.env := by rfl) (hpl : (backTo pos (starEach [] X.env)).any (·.1) = false := by rfl) : JV X (.Call (.Name "int" p) [e] [] pos) (dCl intC k) :=
  jcT call_int1 int_s ha hg hm (by decide +kernel) (by decide) (by decide) he hpl
theorem jsum (hm : X.mg "sum" = none) (ha : JRs X [e] k) (hc : X.calm = true := by rfl) (hg : Gl X "sum" := by rfl) (he : starEach [e] X.env = (false, eval e X.env) :: starEach [] X.env := by rfl) (hpl : (backTo pos (starEach [] X.env)).any (·.1) = false := by rfl) : JV X (.Call (.Name "sum" p) [e] [] pos) (dCl sumC k) :=
  jcB (cr_sum hc) sum_s ha hg hm (by decide +kernel) (by decide) (by decide) he hpl
theorem jany (hm : X.mg "any" = none) (ha : JRs X [e] k) (hc : X.calm = true := by rfl) (hg : Gl X "any" := by rfl) (he : starEach [e] X.env = (false, eval e X.env) :: starEach [] X.env := by rfl) (hpl : (backTo pos (starEach [] X.env)).any (·.1) = false := by rfl) : JV X (.Call (.Name "any" p) [e] [] pos) (dCl anyC k) :=
  jcB (cr_any hc) any_s ha hg hm (by decide +kernel) (by decide) (by decide) he hpl
theorem jall (hm : X.mg "all" = none) (ha : JRs X [e] k) (hc : X.calm = true := by rfl) (hg : Gl X "all" := by rfl) (he : starEach [e] X.env = (false, eval e X.env) :: starEach [] X.env := by rfl) (hpl : (backTo pos (starEach [] X.env)).any (·.1) = false := by rfl) : JV X (.Call (.Name "all" p) [e] [] pos) (dCl allC k) :=
  jcB (cr_all hc) all_s ha hg hm (by decide +kernel) (by decide) (by decide) he hpl
theorem jlist (hm : X.mg "list" = none) (ha : JRs X [e] k) (hg : Gl X "list" := by rfl) (he : starEach [e] X.env = (false, eval e X.env) :: starEach [] X.env := by rfl) (hpl : (backTo pos (starEach [] X.env)).any (·.1) = false := by rfl) : JV X (.Call (.Name "list" p) [e] [] pos) (dCl listC k) :=
  jcT call_list_of list_s ha hg hm (by decide +kernel) (by decide) (by decide) he hpl
theorem jtuple (hm : X.mg "tuple" = none) (ha : JRs X [e] k) (hg : Gl X "tuple" := by rfl) (he : starEach [e] X.env = (false, eval e X.env) :: starEach [] X.env := by rfl) (hpl : (backTo pos (starEach [] X.env)).any (·.1) = false := by rfl) : JV X (.Call (.Name "tuple" p) [e] [] pos) (dCl tupC k) :=
  jcT call_tuple_of tup_s ha hg hm (by decide +kernel) (by decide) (by decide) he hpl
end
end Pv
namespace Pv
open PySem L2 PySem.Spec PyProof.Rows
section
variable {prog : Program} {w : World} {A : Around} {E : Value → Shared → Prop} {s : Shared}
theorem each_two {α β : Type} {R S : α → β → Prop} : ∀ {as : List α} {bs : List β}, W.EachIs R as bs → W.EachIs S as bs → W.EachIs (fun a b => R a b ∧ S a b) as bs
  | _, _, .nil, .nil => .nil
  | _, _, .cons a t, .cons b u => .cons ⟨a, b⟩ (each_two t u)
/-- sorted(x): what x's walk gives, sorted -/
theorem sorted_col {R : Value → D → Prop} {l : Addr} {vs : List Value} {bs : List D} {Q : Value → Shared → Prop}
    (hcol : ∀ (E' : Value → Shared → Prop) (Q' : List Value → Shared → Prop), (∀ h' tk, (∀ b o, s.heap.get? b = some o → h'.get? b = some o) → Q' vs { s with heap := h', toks := tk }) → wpAny (model prog w) A.in1 (collect (.ref l)) Q' E' s)
    (hL : vs.length ≤ sizeLine) (e : W.EachIs R vs bs) (er : W.EachIs (fun v b => ∃ as, Reads s.heap v b as) vs bs) (hal : W.AllAlike bs) (hk : W.Sortable bs) (hu : ∀ b, b ∈ bs → A.units + 2 + b.depth < cLine)
    (h : ∀ (out : List Value) (n : Nat) (h1 h' : Heap) (tk : Nat), (∀ b o, s.heap.get? b = some o → h1.get? b = some o) → (∀ b o, h1.get? b = some o → h'.get? b = some o) → h'.get? h1.objs.size = some { cls := .type "list", data := .seq out.toArray n } → W.EachIs R out (bs.mergeSort (W.dataLe false id)) → Q (.ref h1.objs.size) { s with heap := h', toks := tk }) :
    wpAny (model prog w) A (call (.builtin "sorted") [.ref l]) Q E s := by
  refine Calls.call_function_entry kind_sorted plain_sorted entry_sorted (args_sorted1 _) ?_
  unfold Builtin.«sorted»
  refine wpAny_bind (m := checkCount "sorted" 1 1 _) (wpAny_pure ?_)
  refine wpAny_bind (hcol _ _ fun h1 tk1 k1 => ?_)
  refine wpAny_bind (wpAny_newList ?_ hL)
  have hp0 : (h1.push { cls := .type "list", data := .seq vs.toArray }).get? h1.objs.size = some (seqObj "list" vs.toArray 0) := Heap.get?_push_size _ rfl
  have k2 : ∀ b o, h1.get? b = some o → (h1.push { cls := .type "list", data := .seq vs.toArray }).get? b = some o := fun b o q => Heap.get?_push_of_some _ q
  have er2 : W.EachIs (fun v b => ∃ as, Reads (h1.push { cls := .type "list", data := .seq vs.toArray }) v (id b) as ∧ h1.objs.size ∉ as) vs bs := er.mono fun v b ⟨as, r⟩ => ⟨as, PyProof.Rows.Reads.keeps (fun b o q => k2 b o (k1 b o q)) r, fun hm => by
    obtain ⟨o, ho⟩ := PyProof.On.reads_mem_get r _ hm
    exact absurd (Heap.lt_size (k1 _ _ ho)) (Nat.lt_irrefl _)⟩
  refine wpAny_bind (wpAny_holding (W.list_sort_data (enc := id) hp0 e er2 (by rw [List.map_id]; exact hal) (by rw [List.map_id]; exact hk) (by rw [← e.length]; exact hL) (fun b hb => ?_) fun out ho eo => ?_))
  · exact Nat.lt_of_le_of_lt (by show A.in1.units + 1 + b.depth ≤ A.units + 2 + b.depth; exact Nat.add_le_add_right (Nat.le_refl (A.units + 1 + 1)) _) (hu b hb)
  · obtain ⟨n, hn⟩ := sortedHeap_at (vs := vs) (out := out.toArray) hp0
    refine wpAny_pure ⟨_, rfl, h out n h1 _ tk1 k1 (fun b o q => ?_) hn eo⟩
    have hlt := Heap.lt_size q
    rw [sortedHeap_old (Nat.ne_of_lt hlt) (by rw [size_push']; exact Nat.lt_succ_of_lt hlt)]
    exact k2 b o q
end
/-! ### by values -/
def srtD (ds : List D) : List D := ds.mergeSort (W.dataLe false id)
def allk (xs : List D) : Bool := xs.all fun x => xs.all fun y => W.alike x y
def sbl (xs : List D) : Bool := (xs.all fun d => match d with | .tuple (_ :: _) => true | _ => false) || (xs.all fun d => match d with | .none => false | .tuple _ => false | _ => true)
theorem allk_of {xs : List D} (h : allk xs = true) : W.AllAlike xs := by
  unfold allk at h
  rw [List.all_eq_true] at h
  intro x hx y hy
  have := h x hx
  rw [List.all_eq_true] at this
  exact this y hy
theorem sbl_of {xs : List D} (h : sbl xs = true) : W.Sortable xs := by
  unfold sbl at h
  rw [Bool.or_eq_true, List.all_eq_true, List.all_eq_true] at h
  rcases h with h | h
  · refine .inl fun d hd => ?_
    have := h d hd
    split at this
    · exact ⟨_, _, rfl⟩
    · cases this
  · refine .inr fun d hd => ?_
    have := h d hd
    split at this
    · cases this
    · cases this
    · rename_i h1 h2
      exact ⟨h1, fun xs e => h2 xs e⟩
def srtOk (xs : List D) : Bool := allk xs && sbl xs && decide (PyData.depthAll xs ≤ 60)
theorem depth_mem : ∀ {xs : List D} {x : D}, x ∈ xs → x.depth ≤ PyData.depthAll xs
  | y :: ys, x, h => by
    rw [PyData.depthAll]
    rcases List.mem_cons.mp h with e | h
    · subst e; exact Nat.le_max_left _ _
    · exact Nat.le_trans (depth_mem h) (Nat.le_max_right _ _)
theorem vals_each {R : V → D → Prop} : ∀ {xs : List V} {us : List Value} {ds : List D}, Vals xs us → Paired R xs ds → W.EachIs (fun u d => ∃ w, RelV w u ∧ R w d) us ds
  | _, _, _, .nil, .nil => .nil
  | _, _, _, .cons r t, .cons a b => .cons ⟨_, r, a⟩ (vals_each t b)
theorem each_vals {R : V → D → Prop} : ∀ {us : List Value} {ds : List D}, W.EachIs (fun u d => ∃ w, RelV w u ∧ R w d) us ds → ∃ xs, Vals xs us ∧ Paired R xs ds
  | _, _, .nil => ⟨[], .nil, .nil⟩
  | _, _, .cons ⟨w, a, b⟩ t => by
    obtain ⟨xs, h1, h2⟩ := each_vals t
    exact ⟨w :: xs, .cons a h1, .cons b h2⟩
theorem reads_each {h : Heap} : ∀ {us : List Value} {ds : List D} {as : List Addr}, ReadsAll h us ds as → W.EachIs (fun v b => ∃ as, Reads h v b as) us ds
  | _, _, _, .nil => .nil
  | _, _, _, .cons a b => .cons ⟨_, a⟩ (reads_each b)
theorem paired_len {α β : Type} {R : α → β → Prop} : ∀ {as : List α} {bs : List β}, Paired R as bs → as.length = bs.length
  | _, _, .nil => rfl
  | _, _, .cons _ t => by rw [List.length_cons, List.length_cons, paired_len t]
theorem Rps.paired {H : Hp} : ∀ {vs : List V} {ds : List D}, Rps H vs ds → Paired (Rp H) vs ds
  | [], [], _ => .nil
  | _ :: _, _ :: _, h => by
    cases h with
    | cons a b => exact .cons a (Rps.paired b)
  | [], _ :: _, h => by cases h
  | _ :: _, [], h => by cases h
theorem Rps.of_paired {H : Hp} : ∀ {vs : List V} {ds : List D}, Paired (Rp H) vs ds → Rps H vs ds
  | _, _, .nil => .nil
  | _, _, .cons a b => .cons a (Rps.of_paired b)
def rSrt (K : PySem.W.Frag) : List V → Hp → VK → Prop := fun vs H Q => ∃ (a : Addr) (xs : List V) (ds : List D) (R : V → D → Prop), vs = [V.ref a] ∧ (SqL K H a xs ∨ SqT K H a xs) ∧ DpAll K H xs ds ∧ srtOk ds = true ∧ xs.length ≤ sizeLine ∧ Paired R xs ds ∧
  ∀ (p : Addr) (out : List V), H p = none → Paired R out (srtD ds) → Q (.ref p) (upd H p (.lst out))
section
variable {X : Cx}
theorem cr_srt (hu : X.A.units + 64 < cLine) : CallR X (.builtin "sorted") (rSrt X.K) := by
  intro pins s σ H vs us Q I r h
  obtain ⟨a, xs, ds, R, rfl, hs, hK, hok, hl, hR, q⟩ := h
  rw [Vals.ref1 r]
  unfold srtOk at hok
  rw [Bool.and_eq_true, Bool.and_eq_true] at hok
  obtain ⟨⟨h1, h2⟩, h3⟩ := hok
  have h3 := of_decide_eq_true h3
  have core : ∀ (its : List Value) (o : Obj) (T : String) (n : Nat), T = "list" ∨ T = "tuple" → Vals xs its → s.heap.get? a = some o → o.cls = .type T → o.data = .seq its.toArray n → wpAny (model X.prog X.w) X.A (call (.builtin "sorted") [.ref a]) (EP X pins σ Q) X.xe s := by
    intro its o T n hT rv ho hc hd
    have hlen := rv.length
    obtain ⟨as, hr⟩ := L2.Dp.readsAll I _ _ its hK rv
    refine sorted_col (fun E' Q' hQ' => wpAny_collect_seq a hT ho hc hd (fun h' k => ?_) (by rw [List.size_toArray, ← hlen]; exact hl)) (by rw [← hlen]; exact hl) (vals_each rv hR) (reads_each hr) (allk_of h1) (sbl_of h2) (fun b hb => ?_) fun out n' h1 h' tk k1 k2 hp eo => ?_
    · have := hQ' h' s.toks k
      simpa using this
    · refine Nat.lt_of_le_of_lt ?_ hu
      have := depth_mem hb
      omega
    · obtain ⟨ws, rw1, rw2⟩ := each_vals eo
      have I1 : Inv X pins σ H { s with heap := h1, toks := tk } := I.kept k1
      have hz : ws.length ≤ sizeLine := by
        rw [paired_len rw2]
        unfold srtD at *
        rw [List.length_mergeSort, ← paired_len hR]
        exact hl
      exact ⟨.ref h1.objs.size, _, I1.laid (t' := tk) (o := .lst ws) k2 (Nat.le_refl _) ⟨hz, out, n', rw1, hp⟩, rfl, q _ ws (I1.hok.fresh (Nat.le_refl _)) rw2⟩
  rcases hs with hs | hs
  · obtain ⟨its, rv, ⟨o, n, ho, hc, hd, hd2⟩, _⟩ := I.list hs
    exact core its o "list" _ (.inl rfl) rv ho hc hd2
  · obtain ⟨its, rv, ⟨o, ho, hc, n, hd⟩, _⟩ := I.tuple hs
    exact core its o "tuple" _ (.inr rfl) rv ho hc hd
def srtC (ds : List D) : Option Vl := match ds with
  | [.list xs] => if srtOk xs = true then some (.ow (srtD xs)) else none
  | [.tuple xs] => if srtOk xs = true then some (.ow (srtD xs)) else none
  | _ => none
theorem srtD_len (xs : List D) : (srtD xs).length = xs.length := by unfold srtD; rw [List.length_mergeSort]
theorem srt_s {K : PySem.W.Frag} : CallS (rSrt K) srtC := by
  intro g Hs H τ ws ds v Q le tp r e q
  unfold srtC at e
  split at e
  · split at e
    · rename_i hc; cases e
      obtain ⟨w, rfl, r1⟩ := rdb1 r
      obtain ⟨p, vs, rfl, hp, hl, hr⟩ := r1.list le
      refine ⟨p, vs, _, Rp Hs, rfl, .inl (.of hp), Rps.dp _ _ (hr.to le), hc, hl, hr.paired, fun p' out hp' ho => ?_⟩
      exact q.lst le tp (by rw [paired_len ho, srtD_len, ← hr.len]; exact hl) (Rps.of_paired ho) p' hp'
    · cases e
  · split at e
    · rename_i hc; cases e
      obtain ⟨w, rfl, r1⟩ := rdb1 r
      obtain ⟨p, vs, rfl, hp, hl, hr⟩ := r1.tuple
      refine ⟨p, vs, _, Rp Hs, rfl, .inr (.of (le _ _ hp)), Rps.dp _ _ (hr.to le), hc, hl, hr.paired, fun p' out hp' ho => ?_⟩
      exact q.lst le tp (by rw [paired_len ho, srtD_len, ← hr.len]; exact hl) (Rps.of_paired ho) p' hp'
    · cases e
  · cases e
theorem jsorted {p pos : Pos} {e : Expr} {k : DA} (hm : X.mg "sorted" = none) (hu : X.A.units + 64 < cLine) (ha : JRs X [e] k) (hg : Gl X "sorted" := by rfl) (he : starEach [e] X.env = (false, eval e X.env) :: starEach [] X.env := by rfl) (hpl : (backTo pos (starEach [] X.env)).any (·.1) = false := by rfl) : JV X (.Call (.Name "sorted" p) [e] [] pos) (dCl srtC k) :=
  jcB (cr_srt hu) srt_s ha hg hm (by decide +kernel) (by decide) (by decide) he hpl
end
end Pv
namespace Pv
open PySem L2 PySem.Spec PyProof.Rows
/-- how statements may change the heaps -/
structure Fw (g : G) (Hs Hs' H' : Hp) (τ' : Tp) : Prop where
  s : Same Hs Hs'
  le : Same Hs' H'
  tp : TpOk g Hs' H' τ'
theorem Up.fw {g : G} {Hs H Hs' H' : Hp} {τ' : Tp} (u : Up g Hs H Hs' H' τ') : Fw g Hs Hs' H' τ' := ⟨u.s, u.le, u.tp⟩
abbrev DI := Ev → Tp → Option (List D × Tp)
/-- J walks ds, as long as what was shared stays -/
def WkS (g : G) (Hs : Hp) (J : It) (ds : List D) : Prop := ∃ (Gd : Hp → Prop) (Y : Nat → Hp → V → Hp → Prop), Walk J ds.length Gd Y ∧ (∀ Hs2 H2 τ2, Fw g Hs Hs2 H2 τ2 → Gd H2) ∧
  ∀ Hs2 H2 τ2 i x H3 d, Fw g Hs Hs2 H2 τ2 → Y i H2 x H3 → ds[i]? = some d → ∃ Hs3, Up g Hs2 H2 Hs3 H3 τ2 ∧ Rp Hs3 x d
/-- .. as long as nothing that stood is changed -/
def WkE (g : G) (Hs H : Hp) (J : It) (ds : List D) : Prop := ∃ (Gd : Hp → Prop) (Y : Nat → Hp → V → Hp → Prop), Walk J ds.length Gd Y ∧ (∀ Hs2 H2 τ2, Up g Hs H Hs2 H2 τ2 → Gd H2) ∧
  ∀ Hs2 H2 τ2 i x H3 d, Up g Hs H Hs2 H2 τ2 → Y i H2 x H3 → ds[i]? = some d → ∃ Hs3, Up g Hs2 H2 Hs3 H3 τ2 ∧ Rp Hs3 x d
theorem WkS.e {g : G} {Hs H : Hp} {J : It} {ds : List D} (w : WkS g Hs J ds) : WkE g Hs H J ds := by
  obtain ⟨Gd, Y, w, h1, h2⟩ := w
  exact ⟨Gd, Y, w, fun Hs2 H2 τ2 u => h1 Hs2 H2 τ2 u.fw, fun Hs2 H2 τ2 i x H3 d u => h2 Hs2 H2 τ2 i x H3 d u.fw⟩
def tIS (f : DI) : TI := fun σ H R => ∃ g Hs env τ ds τ', Rel g Hs H σ env τ ∧ f env τ = some (ds, τ') ∧ ∀ J Hs' H', Up g Hs H Hs' H' τ' → ds.length ≤ sizeLine → WkS g Hs' J ds → R J H'
def tIE (f : DI) : TI := fun σ H R => ∃ g Hs env τ ds τ', Rel g Hs H σ env τ ∧ f env τ = some (ds, τ') ∧ ∀ J Hs' H', Up g Hs H Hs' H' τ' → ds.length ≤ sizeLine → WkE g Hs' H' J ds → R J H'
/-- walked by a for; by a comprehension -/
abbrev JI (X : Cx) (tg e : Expr) (f : DI) : Prop := PI X tg e (tIS f)
abbrev JC (X : Cx) (tg e : Expr) (f : DI) : Prop := PI X tg e (tIE f)
section
variable {X : Cx} {tg e : Expr}
theorem PIi {t t' : TI} (h : PI X tg e t) (i : ∀ σ H R, t' σ H R → t σ H R) : PI X tg e t' := ⟨fun pins s σ H R I k => h.run pins s σ H R I (i σ H R k)⟩
theorem PIor {t t' : TI} (h : PI X tg e t) (h' : PI X tg e t') : PI X tg e (fun σ H R => t σ H R ∨ t' σ H R) := ⟨fun pins s σ H R I k => k.elim (fun k => h.run pins s σ H R I k) fun k => h'.run pins s σ H R I k⟩
theorem jc_i {f : DI} (h : JI X tg e f) : JC X tg e f := PIi h fun σ H R ⟨g, Hs, env, τ, ds, τ', r, hf, q⟩ => ⟨g, Hs, env, τ, ds, τ', r, hf, fun J Hs' H' u hl w => q J Hs' H' u hl w.e⟩
/-! a list, a tuple, a text -/
def signs (z : Str) : List D := z.cps.toList.map fun c => .str ⟨#[c]⟩
def dIt (f : DD) : DI := fun env τ => bnd (f env τ) fun d τ' => match d with
  | .list ds => some (ds, τ')
  | .tuple ds => some (ds, τ')
  | .str z => if z.cps.size ≤ 16777216 then some (signs z, τ') else none
  | _ => none
theorem wk_list {K : PySem.W.Frag} {g : G} {Hs : Hp} {a : Addr} {xs : List V} {ds : List D} (hp : Hs a = some (.lst xs)) (hr : Rps Hs xs ds) : WkS g Hs (Itl K a) ds := by
  refine ⟨fun H => SqL K H a xs, YAt xs, by rw [← hr.len]; exact walk_list, fun Hs2 H2 τ2 f2 => .of (f2.le _ _ (f2.s _ _ hp)), fun Hs2 H2 τ2 i x H3 d f2 y hd => ?_⟩
  obtain ⟨rfl, hx⟩ := y
  obtain ⟨w2, e2, r2⟩ := hr.get hd
  rw [hx] at e2; cases e2
  exact ⟨Hs2, .refl f2.le f2.tp, r2.to f2.s⟩
theorem wk_bor {K : PySem.W.Frag} {g : G} {Hs H : Hp} {a : Addr} {xs : List V} {ds : List D} (hp : H a = some (.lst xs)) (nT : a ≠ g.aT) (hr : Rps Hs xs ds) : WkE g Hs H (Itl K a) ds := by
  refine ⟨fun H => SqL K H a xs, YAt xs, by rw [← hr.len]; exact walk_list, fun Hs2 H2 τ2 f2 => .of (f2.h _ _ hp nT), fun Hs2 H2 τ2 i x H3 d f2 y hd => ?_⟩
  obtain ⟨rfl, hx⟩ := y
  obtain ⟨w2, e2, r2⟩ := hr.get hd
  rw [hx] at e2; cases e2
  exact ⟨Hs2, .refl f2.le f2.tp, r2.to f2.s⟩
theorem wk_tup {K : PySem.W.Frag} {g : G} {Hs : Hp} {a : Addr} {xs : List V} {ds : List D} (hp : Hs a = some (.tup xs)) (hr : Rps Hs xs ds) : WkS g Hs (Itt K a) ds := by
  refine ⟨fun H => SqT K H a xs, YAt xs, by rw [← hr.len]; exact walk_tup, fun Hs2 H2 τ2 f2 => .of (f2.le _ _ (f2.s _ _ hp)), fun Hs2 H2 τ2 i x H3 d f2 y hd => ?_⟩
  obtain ⟨rfl, hx⟩ := y
  obtain ⟨w2, e2, r2⟩ := hr.get hd
  rw [hx] at e2; cases e2
  exact ⟨Hs2, .refl f2.le f2.tp, r2.to f2.s⟩
theorem signs_len (z : Str) : (signs z).length = z.cps.size := by unfold signs; rw [List.length_map, Array.length_toList]
theorem wk_str {g : G} {Hs : Hp} {z : Str} : WkS g Hs (Its z) (signs z) := by
  refine ⟨fun _ => True, fun i H v H' => H' = H ∧ ∃ c, z.cps[i]? = some c ∧ v = .str ⟨#[c]⟩, by rw [signs_len]; exact walk_str, fun _ _ _ _ => trivial, fun Hs2 H2 τ2 i x H3 d f2 y hd => ?_⟩
  obtain ⟨rfl, c, hc, rfl⟩ := y
  refine ⟨Hs2, .refl f2.le f2.tp, ?_⟩
  unfold signs at hd
  rw [List.getElem?_map, Array.getElem?_toList, hc] at hd
  cases hd
  exact .str _
theorem ji_seq {f : DD} (h : JD X e f) : JI X tg e (dIt f) := PIi (PIor (pi_list h) (PIor (pi_tup h) (pi_str h))) fun σ H R ⟨g, Hs, env, τ, ds, τ', r, hf, q⟩ => by
  obtain ⟨d, τ1, h1, h2⟩ := bnd_eq hf
  split at h2
  · cases h2
    refine .inl ⟨g, Hs, env, τ, _, τ', r, h1, fun w Hs1 H1 u1 r1 => ?_⟩
    cases r1 with
    | lst hp hl hr => exact ⟨_, rfl, ⟨_, .of (u1.le _ _ hp)⟩, q _ Hs1 H1 u1 (by rw [← hr.len]; exact hl) (wk_list hp hr)⟩
  · cases h2
    refine .inr (.inl ⟨g, Hs, env, τ, _, τ', r, h1, fun w Hs1 H1 u1 r1 => ?_⟩)
    cases r1 with
    | tup hp hl hr => exact ⟨_, rfl, ⟨_, .of (u1.le _ _ hp)⟩, q _ Hs1 H1 u1 (by rw [← hr.len]; exact hl) (wk_tup hp hr)⟩
  · split at h2
    · rename_i z hz
      cases h2
      refine .inr (.inr ⟨g, Hs, env, τ, _, τ', r, h1, fun w Hs1 H1 u1 r1 => ?_⟩)
      cases r1
      exact ⟨z, rfl, q _ Hs1 H1 u1 (by rw [signs_len, line_eq]; exact hz) wk_str⟩
    · cases h2
  · cases h2
/-- a list that may be one's own: by a comprehension -/
theorem jc_bor {f : DD} (h : JR X e f) : JC X tg e (dIt f) := PIi (PIor (pi_list h) (PIor (pi_tup h) (pi_str h))) fun σ H R ⟨g, Hs, env, τ, ds, τ', r, hf, q⟩ => by
  obtain ⟨d, τ1, h1, h2⟩ := bnd_eq hf
  split at h2
  · cases h2
    refine .inl ⟨g, Hs, env, τ, _, τ', r, h1, fun w Hs1 H1 u1 r1 => ?_⟩
    rcases r1 with r1 | ⟨ds', p, xs, e1, rfl, nT, hp, hl, hr⟩
    · cases r1 with
      | lst hp hl hr => exact ⟨_, rfl, ⟨_, .of (u1.le _ _ hp)⟩, q _ Hs1 H1 u1 (by rw [← hr.len]; exact hl) (wk_list hp hr).e⟩
    · cases e1
      exact ⟨p, rfl, ⟨xs, .of hp⟩, q _ Hs1 H1 u1 (by rw [← hr.len]; exact hl) (wk_bor hp nT hr)⟩
  · cases h2
    refine .inr (.inl ⟨g, Hs, env, τ, _, τ', r, h1, fun w Hs1 H1 u1 r1 => ?_⟩)
    obtain ⟨a, xs, rfl, hp, hl, hr⟩ := r1.tuple
    exact ⟨a, rfl, ⟨xs, .of (u1.le _ _ hp)⟩, q _ Hs1 H1 u1 (by rw [← hr.len]; exact hl) (wk_tup hp hr).e⟩
  · split at h2
    · rename_i z hz
      cases h2
      refine .inr (.inr ⟨g, Hs, env, τ, _, τ', r, h1, fun w Hs1 H1 u1 r1 => ?_⟩)
      have := r1.str
      subst this
      exact ⟨z, rfl, q _ Hs1 H1 u1 (by rw [signs_len, line_eq]; exact hz) wk_str.e⟩
    · cases h2
  · cases h2
/-! ranges -/
def rngL (lo : Int) (n : Nat) : List D := (List.range n).map fun (i : Nat) => PyData.int (lo + (i : Int))
theorem rngL_len (lo : Int) (n : Nat) : (rngL lo n).length = n := by unfold rngL; rw [List.length_map, List.length_range]
theorem rngL_get {lo : Int} {n i : Nat} {d : D} (h : (rngL lo n)[i]? = some d) : d = .int (lo + (i : Int)) := by
  unfold rngL at h
  rw [List.getElem?_map] at h
  cases q : (List.range n)[i]? with
  | none => rw [q] at h; cases h
  | some m =>
    rw [q] at h
    have : m = i := by
      obtain ⟨h1, h2⟩ := List.getElem?_eq_some_iff.mp q
      rw [List.getElem_range] at h2
      exact h2.symm
    subst this
    cases h
    rfl
def dRng1 (k : DA) : DI := fun env τ => bnd (k env τ) fun ds τ' => match ds with
  | [.int j] => if j ≤ 16777216 ∧ -16777216 ≤ j then some (rngL 0 j.toNat, τ') else none
  | _ => none
def dRng2 (k : DA) : DI := fun env τ => bnd (k env τ) fun ds τ' => match ds with
  | [.int i, .int j] => if j ≤ 16777216 ∧ -16777216 ≤ j ∧ i ≤ 16777216 ∧ -16777216 ≤ i ∧ j - i ≤ 16777216 then some (rngL i (j - i).toNat, τ') else none
  | _ => none
theorem wk_rng {g : G} {Hs : Hp} (lo : Int) (n : Nat) : WkS g Hs (Itr lo n) (rngL lo n) := by
  refine ⟨fun _ => True, YFn fun i => .int (lo + i), by rw [rngL_len]; exact walk_range, fun _ _ _ _ => trivial, fun Hs2 H2 τ2 i x H3 d f2 y hd => ?_⟩
  obtain ⟨rfl, rfl⟩ := y
  rw [rngL_get hd]
  exact ⟨Hs2, .refl f2.le f2.tp, .int _⟩
theorem ji_range1 {a : Expr} {k : DA} {p pos : Pos} (hm : X.mg "range" = none) (ha : JRs X [a] k) (hg : Gl X "range" := by rfl) (hs : starEach [a] X.env = [(false, eval a X.env)] := by rfl) : JI X tg (.Call (.Name "range" p) [a] [] pos) (dRng1 k) :=
  PIi (pi_range1 hg hm ha hs) fun σ H R ⟨g, Hs, env, τ, ds, τ', r, hf, q⟩ => by
    obtain ⟨d, τ1, h1, h2⟩ := bnd_eq hf
    refine ⟨g, Hs, env, τ, d, τ1, r, h1, fun ws Hs1 H1 u1 r1 => ?_⟩
    split at h2
    · split at h2
      · rename_i hc
        cases h2
        obtain ⟨w, rfl, r2⟩ := rdb1 r1
        have := r2.int
        subst this
        refine ⟨_, rfl, by omega, by omega, q _ Hs1 H1 u1 (by rw [rngL_len, line_eq]; omega) (wk_rng _ _)⟩
      · cases h2
    · cases h2
theorem ji_range2 {a b : Expr} {k : DA} {p pos : Pos} (hm : X.mg "range" = none) (ha : JRs X [a, b] k) (hg : Gl X "range" := by rfl) (hs : starEach [a, b] X.env = [(false, eval a X.env), (false, eval b X.env)] := by rfl) (hs2 : starEach [b] X.env = [(false, eval b X.env)] := by rfl) : JI X tg (.Call (.Name "range" p) [a, b] [] pos) (dRng2 k) :=
  PIi (pi_range2 hg hm ha hs hs2) fun σ H R ⟨g, Hs, env, τ, ds, τ', r, hf, q⟩ => by
    obtain ⟨d, τ1, h1, h2⟩ := bnd_eq hf
    refine ⟨g, Hs, env, τ, d, τ1, r, h1, fun ws Hs1 H1 u1 r1 => ?_⟩
    split at h2
    · split at h2
      · rename_i hc
        cases h2
        obtain ⟨w, v, rfl, r2, r3⟩ := rdb2 r1
        have := r2.int
        subst this
        have := r3.int
        subst this
        refine ⟨_, _, rfl, ⟨by omega, by omega, by omega, by omega⟩, q _ Hs1 H1 u1 (by rw [rngL_len, line_eq]; omega) (wk_rng _ _)⟩
      · cases h2
    · cases h2
/-! zip of two lists -/
def zipD : List D → List D → List D
  | x :: xs, y :: ys => .tuple [x, y] :: zipD xs ys
  | _, _ => []
theorem zipD_len : ∀ xs ys : List D, (zipD xs ys).length = min xs.length ys.length
  | [], _ => by simp [zipD]
  | _ :: _, [] => by simp [zipD]
  | x :: xs, y :: ys => by
    show (zipD xs ys).length + 1 = min (xs.length + 1) (ys.length + 1)
    rw [zipD_len xs ys]; omega
theorem zipD_get : ∀ {xs ys : List D} {i : Nat} {d : D}, (zipD xs ys)[i]? = some d → ∃ x y, xs[i]? = some x ∧ ys[i]? = some y ∧ d = .tuple [x, y]
  | [], _, _, _, h => by simp [zipD] at h
  | _ :: _, [], _, _, h => by simp [zipD] at h
  | x :: xs, y :: ys, 0, d, h => by
    have h : some (PyData.tuple [x, y]) = some d := h
    cases h
    exact ⟨x, y, rfl, rfl, rfl⟩
  | x :: xs, y :: ys, i + 1, d, h => by
    have h : (zipD xs ys)[i]? = some d := h
    obtain ⟨a, b, h1, h2, h3⟩ := zipD_get h
    exact ⟨a, b, by simpa using h1, by simpa using h2, h3⟩
/-- a walk that gives new pairs -/
theorem new_pair {g : G} {Hs2 H2 : Hp} {τ2 : Tp} {T : Addr} {x y : V} {d e : D} (le : Same Hs2 H2) (tp : TpOk g Hs2 H2 τ2) (hT : H2 T = none) (rx : Rp Hs2 x d) (ry : Rp Hs2 y e) :
    ∃ Hs3, Up g Hs2 H2 Hs3 (upd H2 T (.tup [x, y])) τ2 ∧ Rp Hs3 (.ref T) (.tuple [d, e]) := by
  have u := Up.refl le tp
  have n := u.freeS hT
  exact ⟨_, u.new hT, .tup upd_same (by show 2 ≤ sizeLine; decide) (.cons (rx.to (same_upd n)) (.cons (ry.to (same_upd n)) .nil))⟩
end
/-! ### targets -/
abbrev DG := D → Ev → Option Ev
/-- only the slots is changed -/
structure Touch (is : List Nat) (σ σ' : Sl) : Prop where
  l : σ'.length = σ.length
  o : ∀ j : Nat, j ∉ is → σ'[j]? = σ[j]?
theorem wipe_get : ∀ (vs : List Nat) (σ : Sl) (j : Nat), (L2.wipe σ vs)[j]? = if j ∈ vs ∧ j < σ.length then some none else σ[j]? := by
  intro vs
  induction vs with
  | nil => intro σ j; simp [L2.wipe]
  | cons v vs ih =>
    intro σ j
    unfold L2.wipe
    by_cases h : v = j
    · subst h
      by_cases hl : v < σ.length
      · rw [List.getElem?_set_self (by rw [wipe_length]; exact hl), if_pos ⟨List.mem_cons_self, hl⟩]
      · rw [if_neg (fun z => hl z.2), List.getElem?_eq_none (by rw [List.length_set, wipe_length]; omega), List.getElem?_eq_none (by omega)]
    · rw [List.getElem?_set_ne h, ih]
      by_cases hj : j ∈ vs ∧ j < σ.length
      · rw [if_pos hj, if_pos ⟨List.mem_cons_of_mem _ hj.1, hj.2⟩]
      · rw [if_neg hj, if_neg]
        rintro ⟨z1, z2⟩
        rcases List.mem_cons.mp z1 with e | z1
        · exact h e.symm
        · exact hj ⟨z1, z2⟩
theorem wipe_wipe (vs : List Nat) (σ : Sl) : L2.wipe (L2.wipe σ vs) vs = L2.wipe σ vs := by
  apply List.ext_getElem?
  intro j
  rw [wipe_get, wipe_length, wipe_get]
  by_cases hj : j ∈ vs ∧ j < σ.length
  · rw [if_pos hj, if_pos hj]
  · rw [if_neg hj]
theorem Touch.wipe {is : List Nat} {σ σ' : Sl} (t : Touch is σ σ') : ∀ {vs : List Nat}, (∀ i ∈ is, i ∈ vs) → wipe σ' vs = wipe σ vs := by
  intro vs hv
  apply List.ext_getElem?
  intro j
  rw [wipe_get, wipe_get, t.l]
  by_cases hj : j ∈ vs ∧ j < σ.length
  · rw [if_pos hj, if_pos hj]
  · rw [if_neg hj, if_neg hj]
    by_cases hl : j < σ.length
    · exact t.o j fun z => hj ⟨hv j z, hl⟩
    · rw [List.getElem?_eq_none (by rw [t.l]; omega), List.getElem?_eq_none (by omega)]
theorem Touch.refl {σ : Sl} : Touch [] σ σ := ⟨rfl, fun _ _ => rfl⟩
theorem Touch.set {is : List Nat} {σ σ' : Sl} {i : Nat} {v : Option V} (t : Touch is (σ.set i v) σ') : Touch (i :: is) σ σ' :=
  ⟨by rw [t.l, List.length_set], fun j hj => by
    rw [t.o j (fun z => hj (List.mem_cons_of_mem _ z)), List.getElem?_set_ne (fun e => hj (by rw [e]; exact List.mem_cons_self))]⟩
section
variable {g : G} {Hs H : Hp} {σ : Sl} {env : Ev} {τ : Tp}
theorem Rel.setv (r : Rel g Hs H σ env τ) (i : Nat) {w : V} {v : Vl} (rv : RepV g.aT Hs H w v) (h0 : v.own = true → ∀ p, w = .ref p → g.H0 p = none ∧ ∀ (j : Nat) (u : Vl), env[j]? = some (some u) → u.own = true → σ[j]? ≠ some (some (.ref p))) :
    Rel g Hs H (σ.set i (some w)) (env.set i (some v)) τ where
  le := r.le
  tp := r.tp
  ls := r.ls
  bs := r.bs
  fr := r.fr
  sl := fun j u e => by
    by_cases hj : i = j
    · subst hj
      by_cases hl : i < env.length
      · rw [List.getElem?_set_self hl] at e
        cases e
        exact ⟨w, List.getElem?_set_self (by rw [← r.ln]; exact hl), rv⟩
      · rw [List.getElem?_eq_none (by rw [List.length_set]; omega)] at e
        cases e
    · rw [List.getElem?_set_ne hj] at e ⊢
      exact r.sl j u e
  ow := fun j u p e ho ep => by
    by_cases hj : i = j
    · subst hj
      by_cases hl : i < env.length
      · rw [List.getElem?_set_self hl] at e
        rw [List.getElem?_set_self (by rw [← r.ln]; exact hl)] at ep
        cases e; cases ep
        exact (h0 ho p rfl).1
      · rw [List.getElem?_eq_none (by rw [List.length_set]; omega)] at e
        cases e
    · rw [List.getElem?_set_ne hj] at e ep
      exact r.ow j u p e ho ep
  ap := fun j k u u' p e e' ho ho' ep ep' => by
    have out : ∀ (j : Nat) (u : Vl), ¬ i < env.length → (env.set i (some v))[j]? = some (some u) → i ≠ j := fun j u hl e z => by
      subst z
      rw [List.getElem?_eq_none (by rw [List.length_set]; omega)] at e
      cases e
    by_cases hl : i < env.length
    · by_cases hj : i = j
      · by_cases hk : i = k
        · exact hj.symm.trans hk
        · subst hj
          rw [List.getElem?_set_self hl] at e
          rw [List.getElem?_set_self (by rw [← r.ln]; exact hl)] at ep
          rw [List.getElem?_set_ne hk] at e' ep'
          cases e; cases ep
          exact absurd ep' ((h0 ho p rfl).2 k u' e' ho')
      · by_cases hk : i = k
        · subst hk
          rw [List.getElem?_set_self hl] at e'
          rw [List.getElem?_set_self (by rw [← r.ln]; exact hl)] at ep'
          rw [List.getElem?_set_ne hj] at e ep
          cases e'; cases ep'
          exact absurd ep ((h0 ho' p rfl).2 j u e ho)
        · rw [List.getElem?_set_ne hj] at e ep
          rw [List.getElem?_set_ne hk] at e' ep'
          exact r.ap j k u u' p e e' ho ho' ep ep'
    · have hj := out j u hl e
      have hk := out k u' hl e'
      rw [List.getElem?_set_ne hj] at e ep
      rw [List.getElem?_set_ne hk] at e' ep'
      exact r.ap j k u u' p e e' ho ho' ep ep'
  ln := by rw [List.length_set, List.length_set, r.ln]
theorem Rel.set (r : Rel g Hs H σ env τ) (i : Nat) {w : V} {d : D} (rv : Rp Hs w d) : Rel g Hs H (σ.set i (some w)) (env.set i (some (.sh d))) τ := r.setv i (v := .sh d) rv fun z => by cases z
/-- forgetting a slot -/
theorem Rel.drop (r : Rel g Hs H σ env τ) {σ' : Sl} {env' : Ev} (hl : env'.length = σ'.length) (h : ∀ (i : Nat) v, env'[i]? = some (some v) → env[i]? = some (some v) ∧ σ'[i]? = σ[i]?) : Rel g Hs H σ' env' τ where
  le := r.le
  tp := r.tp
  ls := r.ls
  bs := r.bs
  fr := r.fr
  sl := fun i v e => by
    obtain ⟨h1, h2⟩ := h i v e
    rw [h2]
    exact r.sl i v h1
  ow := fun i v p e ho ep => by
    obtain ⟨h1, h2⟩ := h i v e
    rw [h2] at ep
    exact r.ow i v p h1 ho ep
  ap := fun i j v v' p e e' ho ho' ep ep' => by
    obtain ⟨h1, h2⟩ := h i v e
    obtain ⟨h3, h4⟩ := h j v' e'
    rw [h2] at ep
    rw [h4] at ep'
    exact r.ap i j v v' p h1 h3 ho ho' ep ep'
  ln := hl
def wipeE (env : Ev) : List Nat → Ev
  | [] => env
  | v :: vs => (wipeE env vs).set v none
theorem wipeE_length (env : Ev) : ∀ vs : List Nat, (wipeE env vs).length = env.length
  | [] => rfl
  | v :: vs => by unfold wipeE; rw [List.length_set, wipeE_length env vs]
theorem wipeE_some {i : Nat} {x : Vl} : ∀ {vs : List Nat}, (wipeE env vs)[i]? = some (some x) → env[i]? = some (some x) ∧ i ∉ vs
  | [], h => ⟨h, by simp⟩
  | v :: vs, h => by
    unfold wipeE at h
    by_cases hi : v = i
    · subst hi
      by_cases hv : v < (wipeE env vs).length
      · rw [List.getElem?_set_self hv] at h; cases h
      · rw [List.getElem?_eq_none (by simpa using hv)] at h; cases h
    · rw [List.getElem?_set_ne hi] at h
      obtain ⟨h1, h2⟩ := wipeE_some h
      exact ⟨h1, by simp only [List.mem_cons, not_or]; exact ⟨fun e => hi e.symm, h2⟩⟩
theorem wipe_out {i : Nat} : ∀ {vs : List Nat}, i ∉ vs → (wipe σ vs)[i]? = σ[i]?
  | [], _ => rfl
  | v :: vs, h => by
    unfold wipe
    rw [List.getElem?_set_ne (fun e => h (by rw [e]; exact List.mem_cons_self)), wipe_out (fun z => h (List.mem_cons_of_mem _ z))]
theorem Rel.wipe (r : Rel g Hs H σ env τ) (vs : List Nat) : Rel g Hs H (wipe σ vs) (wipeE env vs) τ :=
  r.drop (by rw [wipeE_length, wipe_length, r.ln]) fun i v e => by
    obtain ⟨h1, h2⟩ := wipeE_some e
    exact ⟨h1, wipe_out h2⟩
end
/-- the target takes a shared datum; is: the slots that it sets -/
def tG (is : List Nat) (f : DG) : TG := fun v σ H Q => ∃ g Hs env τ d env', Rel g Hs H σ env τ ∧ Rp Hs v d ∧ f d env = some env' ∧ ∀ σ', Rel g Hs H σ' env' τ → Touch is σ σ' → Q σ' H
def tGs (is : List Nat) : TGs := fun vs σ H Q => ∃ g Hs env τ ds env', Rel g Hs H σ env τ ∧ Rps Hs vs ds ∧ ds.length = is.length ∧ env' = (is.zip ds).foldl (fun e p => e.set p.1 (some (.sh p.2))) env ∧ ∀ σ', Rel g Hs H σ' env' τ → Touch is σ σ' → Q σ' H
abbrev JG (X : Cx) (tg : Expr) (is : List Nat) (f : DG) : Prop := PG X tg (tG is f)
abbrev JGs (X : Cx) (tgs : List Expr) (is : List Nat) : Prop := PGs X tgs (tGs is)
def gN (i : Nat) : DG := fun d env => some (env.set i (some (.sh d)))
def gT (is : List Nat) : DG := fun d env => match d with
  | .tuple ds => if ds.length = is.length then some ((is.zip ds).foldl (fun e p => e.set p.1 (some (.sh p.2))) env) else none
  | _ => none
section
variable {X : Cx} {pos : Pos}
theorem PGi {tg : Expr} {t t' : TG} (h : PG X tg t) (i : ∀ v σ H Q, t' v σ H Q → t v σ H Q) : PG X tg t' := ⟨fun pins s σ H v u Q I r k => h.run pins s σ H v u Q I r (i v σ H Q k)⟩
theorem PGsi {tg : List Expr} {t t' : TGs} (h : PGs X tg t) (i : ∀ v σ H Q, t' v σ H Q → t v σ H Q) : PGs X tg t' := ⟨fun pins s σ H v u Q I r k => h.run pins s σ H v u Q I r (i v σ H Q k)⟩
theorem jg_name (i : Nat) {x : Str} (hN : X.N.Nodup) (hi : X.N[i]? = some x := by rfl) (hx : Loc X.env.scope x := by first | exact Or.inl rfl | exact Or.inr rfl) (hf : X.fn x = true ∨ X.env.scope.names.lookup x = some .local := by first | exact .inl rfl | exact .inr rfl) : JG X (.Name x pos) [i] (gN i) :=
  PGi (pg_name hN hi hx hf) fun v σ H Q ⟨g, Hs, env, τ, d, env', r, rp, hf, q⟩ => by
    cases hf
    exact q _ (r.set i rp) (Touch.set Touch.refl)
theorem jgs_nil : JGs X [] [] := PGsi pgs_nil fun v σ H Q ⟨g, Hs, env, τ, ds, env', r, rp, hl, he, q⟩ => by
  have : ds = [] := List.eq_nil_of_length_eq_zero hl
  subst this
  subst he
  cases rp
  exact ⟨rfl, q σ r Touch.refl⟩
theorem jgs_cons {i : Nat} {is : List Nat} {e : Expr} {es : List Expr} (h1 : JG X e [i] (gN i)) (h2 : JGs X es is) (hs : (assignEach (e :: es) X.env).map (·.2) = assign e X.env :: (assignEach es X.env).map (·.2) := by rfl) : JGs X (e :: es) (i :: is) :=
  PGsi (pgs_cons h1 h2 hs) fun vs σ H Q ⟨g, Hs, env, τ, ds, env', r, rp, hl, he, q⟩ => by
    cases rp with
    | nil => cases hl
    | @cons v vs d ds r1 r2 =>
      refine ⟨v, vs, rfl, g, Hs, env, τ, d, _, r, r1, rfl, fun σ1 r3 t1 => ?_⟩
      refine ⟨g, Hs, _, τ, ds, _, r3, r2, by simpa using hl, rfl, fun σ2 r4 t2 => ?_⟩
      subst he
      refine q σ2 r4 ⟨by rw [t2.l, t1.l], fun j hj => ?_⟩
      rw [t2.o j (fun z => hj (List.mem_cons_of_mem _ z)), t1.o j (fun z => hj (by simp at z; rw [z]; exact List.mem_cons_self))]
theorem jg_tup {es : List Expr} {k : Nat} {is : List Nat} (h : JGs X es is) (hc : X.calm = true := by rfl) (hn : (assignEach es X.env).length = is.length := by rfl) (hst : (assignEach es X.env).findIdx? (·.1) = none := by rfl) : JG X (.Tuple es k pos) is (gT is) :=
  PGi (pg_tup hc h hn hst) fun v σ H Q ⟨g, Hs, env, τ, d, env', r, rp, hf, q⟩ => by
    unfold gT at hf
    split at hf
    · split at hf
      · rename_i hl
        cases hf
        cases rp with
        | tup hp hz hr =>
          exact ⟨_, _, rfl, .of (r.le _ _ hp), by rw [hr.len]; exact hl, g, Hs, env, τ, _, _, r, hr, hl, rfl, q⟩
      · cases hf
    · cases hf
end
/-! ### list comprehensions -/
abbrev JTs (X : Cx) (ifs : List Expr) (f : DT) : Prop := PTs X ifs (tB' f)
def yes : DT := fun _ τ => some (true, τ)
theorem PTsi {X : Cx} {ifs : List Expr} {t t' : TT} (h : PTs X ifs t) (i : ∀ σ H Q, t' σ H Q → t σ H Q) : PTs X ifs t' := ⟨fun pins s σ H Q I k => h.run pins s σ H Q I (i σ H Q k)⟩
theorem jts_nil {X : Cx} : JTs X [] yes := PTsi pts_nil fun σ H Q ⟨g, Hs, env, τ, b, τ', r, hf, q⟩ => by
  cases hf
  exact q Hs H (.refl r.le r.tp)
theorem jts_one {X : Cx} {c : Expr} {f : DT} (h : JT X c f) : JTs X [c] f := pts_one h
def compL (b : DG) (c : DT) (e : DD) : List D → Ev → Tp → Option (List D × Tp)
  | [], _, τ => some ([], τ)
  | x :: xs, env, τ => match b x env with
    | none => none
    | some env1 => bnd (c env1 τ) fun k τ1 => if k = true then bnd (e env1 τ1) fun y τ2 => bnd (compL b c e xs env τ2) fun ys τ3 => some (y :: ys, τ3) else compL b c e xs env τ1
def dComp (vs : List Nat) (it : DI) (b : DG) (c : DT) (e : DD) : DE := fun env τ => bnd (it env τ) fun ds τ1 => bnd (compL b c e ds (wipeE env vs) τ1) fun ys τ2 => some (.ow ys, τ2)
/-- an untracked-as-shared object of the comprehension's own is written -/
theorem Up.put {g : G} {Hs H Hs1 H1 : Hp} {τ1 : Tp} {p : Addr} {o : HO} (u : Up g Hs H Hs1 H1 τ1) (h0 : H p = none) (hn : Hs1 p = none) (nT : p ≠ g.aT) : Up g Hs H Hs1 (upd H1 p o) τ1 where
  s := u.s
  h := fun b q e n => by rw [upd_ne (ne_of_none e h0)]; exact u.h b q e n
  f := u.f
  le := fun b q e => by rw [upd_ne (ne_of_none e hn)]; exact u.le b q e
  tp := ⟨by rw [upd_ne nT.symm]; exact u.tp.h, u.tp.n, u.tp.s, u.tp.l⟩
theorem lc_run {vs is : List Nat} {it : DI} {b : DG} {c : DT} {e : DD} (his : ∀ i ∈ is, i ∈ vs) : ∀ σ H Q, tV (dComp vs it b c e) σ H Q → tLc (tIE it) (tG is b) (tB' c) (tD e) vs σ H Q := fun σ H Q ⟨g, Hs, env, τ, v, τ', r, hf, q⟩ => by
  obtain ⟨ds, τ1, h1, h2⟩ := bnd_eq hf
  obtain ⟨res, τ2, h3, h4⟩ := bnd_eq h2
  cases h4
  refine ⟨g, Hs, env, τ, ds, τ1, r, h1, fun J Hs1 H1 u1 hlen wk A hA => ?_⟩
  obtain ⟨Gd, Y, w, wG, wY⟩ := wk
  have nT := u1.neT hA
  have hA1 := u1.freeS hA
  have r1 := (r.up u1).wipe vs
  have uz : Up g Hs1 H1 Hs1 H1 τ1 := .refl u1.le u1.tp
  refine lc_it w (fun i H' => ∃ Hs' acc ys τi rest, Up g Hs1 H1 Hs' H' τi ∧ H' A = some (.lst acc) ∧ Hs' A = none ∧ Rps Hs' acc ys ∧ acc.length ≤ i ∧ compL b c e (ds.drop i) (wipeE env vs) τi = some (rest, τ') ∧ ys ++ rest = res)
    ⟨Hs1, [], [], τ1, res, uz.mk1 hA, upd_same, hA1, .nil, Nat.le_refl _, by rw [List.drop_zero]; exact h3, rfl⟩ (fun i H' _ ⟨Hs', acc, ys, τi, rest, u2, _⟩ => wG Hs' H' τi u2) (fun i x H2 H3 hi ⟨Hs2, acc, ys, τi, rest, u2, hacc, hA2, hr, hl, hc, hres⟩ hy => ?_) fun H' ⟨Hs2, acc, ys, τi, rest, u2, hacc, hA2, hr, hl, hc, hres⟩ => ?_
  · have hd : ds[i]? = some (ds[i]'hi) := List.getElem?_eq_getElem hi
    generalize ds[i]'hi = d at hd
    obtain ⟨Hs3, u3, rx⟩ := wY Hs2 H2 τi i x H3 d u2 hy hd
    have hacc3 := u3.h _ _ hacc nT
    have hA3 : Hs3 A = none := by
      cases z : Hs3 A with
      | none => rfl
      | some o => rw [u3.f A o z hA2] at hacc; cases hacc
    rw [List.drop_eq_getElem_cons hi, show ds[i] = d from Option.some.inj ((List.getElem?_eq_getElem hi).symm.trans hd)] at hc
    have hc' : (match b d (wipeE env vs) with
      | none => none
      | some env1 => bnd (c env1 τi) fun k τ1 => if k = true then bnd (e env1 τ1) fun y τ2 => bnd (compL b c e (ds.drop (i + 1)) (wipeE env vs) τ2) fun ys τ3 => some (y :: ys, τ3) else compL b c e (ds.drop (i + 1)) (wipeE env vs) τ1) = some (rest, τ') := hc
    cases hb : b d (wipeE env vs) with
    | none => rw [hb] at hc'; cases hc'
    | some env1 =>
      rw [hb] at hc'
      obtain ⟨k, τ4, h5, h6⟩ := bnd_eq hc'
      have r3 : Rel g Hs3 H3 (wipe σ vs) (wipeE env vs) τi := (r1.up u2).up u3
      refine ⟨g, Hs3, wipeE env vs, τi, d, env1, r3, rx, hb, fun σ2 r4 t => ⟨?_, g, Hs3, env1, τi, k, τ4, r4, h5, fun Hs4 H4 u4 => ?_⟩⟩
      · rw [t.wipe his, wipe_wipe]
      · have hacc4 := u4.h _ _ hacc3 nT
        have hA4 : Hs4 A = none := by
          cases z : Hs4 A with
          | none => rfl
          | some o => rw [u4.f A o z hA3] at hacc3; cases hacc3
        cases k with
        | false =>
          have h6 : compL b c e (ds.drop (i + 1)) (wipeE env vs) τ4 = some (rest, τ') := h6
          exact iteF ⟨Hs4, acc, ys, τ4, rest, (u2.trans u3).trans u4, hacc4, hA4, (hr.to u3.s).to u4.s, Nat.le_succ_of_le hl, h6, hres⟩
        | true =>
          obtain ⟨y, τ5, h7, h8⟩ := bnd_eq h6
          obtain ⟨ys', τ6, h9, h10⟩ := bnd_eq h8
          cases h10
          refine iteT ⟨g, Hs4, env1, τ4, y, τ5, r4.up u4, h7, fun wy Hs5 H5 u5 ry => ?_⟩
          have hacc5 := u5.h _ _ hacc4 nT
          have hA5 : Hs5 A = none := by
            cases z : Hs5 A with
            | none => rfl
            | some o => rw [u5.f A o z hA4] at hacc4; cases hacc4
          have ut := ((u2.trans u3).trans u4).trans u5
          refine ⟨acc, hacc5, by omega, Hs5, acc ++ [wy], ys ++ [y], τ5, ys', ut.put hA hA5 nT, upd_same, hA5, (((hr.to u3.s).to u4.s).to u5.s).snoc ry, by rw [List.length_append]; show acc.length + 1 ≤ i + 1; omega, h9, by rw [List.append_assoc]; exact hres⟩
  · rw [List.drop_length] at hc
    cases hc
    rw [List.append_nil] at hres
    subst hres
    exact q _ Hs2 H' (u1.trans u2) ⟨A, acc, rfl, nT, hA2, hacc, by omega, hr⟩ fun _ p ep => by cases ep; exact u1.old hA
section
variable {X : Cx} {pos : Pos} {elt tg iter : Expr} {ifs : List Expr} {scope : Scope} {own : List (Str × Nat)} {is : List Nat} {it : DI} {b : DG} {c : DT} {e : DD}
theorem jcomp (hN : X.N.Nodup) (hi : JC X tg iter it) (ok : BlkOk X.N X.env.scope scope own)
    (hg : ∀ (s : Shared) (H : Hp) (C : Addr) (cl : List (Str × Addr)) (fp : List Addr), JG (X.blk s H scope (compEnvC scope cl C X.env) fp) tg is b)
    (ht : ∀ (s : Shared) (H : Hp) (C : Addr) (cl : List (Str × Addr)) (fp : List Addr), JTs (X.blk s H scope (compEnvC scope cl C X.env) fp) ifs c)
    (he : ∀ (s : Shared) (H : Hp) (C : Addr) (cl : List (Str × Addr)) (fp : List Addr), JD (X.blk s H scope (compEnvC scope cl C X.env) fp) elt e)
    (his : ∀ i ∈ is, i ∈ own.map (·.2) := by decide) (hc : X.calm = true := by rfl) (hs : ∀ x, foldedSetIterable iter X.env x = pure x := by intro _; rfl) : JV X (.ListComp elt [⟨tg, iter, ifs, 0⟩] scope pos) (dComp (own.map (·.2)) it b c e) :=
  PEi (pe_lc hc hN hi ok hg ht he hs) (lc_run his)
end
end Pv
namespace Pv
open PySem L2 PySem.Spec PyProof.Rows
inductive Out where
  | nx (env : Ev) | bk (env : Ev) | ct (env : Ev) | rt (v : Vl)
abbrev DS := Ev → Tp → Option (Out × Tp)
def EndOk (g : G) (Hs : Hp) (τ' : Tp) (o : Out) (E : Ends) : Prop := match o with
  | .nx env' => ∀ σ' Hs' H', Same Hs Hs' → Rel g Hs' H' σ' env' τ' → E.nx σ' H'
  | .bk env' => ∀ σ' Hs' H', Same Hs Hs' → Rel g Hs' H' σ' env' τ' → E.bk σ' H'
  | .ct env' => ∀ σ' Hs' H', Same Hs Hs' → Rel g Hs' H' σ' env' τ' → E.ct σ' H'
  | .rt v => ∀ w Hs' H', Same Hs Hs' → Rel g Hs' H' [] [] τ' → RepV g.aT Hs' H' w v → (v.own = true → ∀ p, w = .ref p → g.H0 p = none) → E.rt w H'
theorem EndOk.mono {g : G} {Hs Hs1 : Hp} {τ' : Tp} {o : Out} {E : Ends} (h : EndOk g Hs τ' o E) (s : Same Hs Hs1) : EndOk g Hs1 τ' o E := by
  cases o with
  | nx env' => exact fun σ' Hs' H' s' r => h σ' Hs' H' (s.trans s') r
  | bk env' => exact fun σ' Hs' H' s' r => h σ' Hs' H' (s.trans s') r
  | ct env' => exact fun σ' Hs' H' s' r => h σ' Hs' H' (s.trans s') r
  | rt v => exact fun w Hs' H' s' r => h w Hs' H' (s.trans s') r
def tS (f : DS) : TS := fun E σ H => ∃ g Hs env τ o τ', Rel g Hs H σ env τ ∧ f env τ = some (o, τ') ∧ EndOk g Hs τ' o E
abbrev JS (X : Cx) (st : Stmt) (f : DS) : Prop := PS X st (tS f)
abbrev JSs (X : Cx) (sts : List Stmt) (f : DS) : Prop := PSs X sts (tS f)
theorem Rel.bas {g : G} {Hs H : Hp} {σ : Sl} {env : Ev} {τ : Tp} (r : Rel g Hs H σ env τ) : Rel g Hs H [] [] τ := r.drop rfl fun i v e => by simp at e
section
variable {X : Cx} {st : Stmt} {sts rest : List Stmt} {pos : Pos} {e : Expr}
theorem PSi {t t' : TS} (h : PS X st t) (i : ∀ E σ H, t' E σ H → t E σ H) : PS X st t' := ⟨fun pins s σ H E I k => h.run pins s σ H E I (i E σ H k)⟩
theorem PSsi {t t' : TS} (h : PSs X sts t) (i : ∀ E σ H, t' E σ H → t E σ H) : PSs X sts t' := ⟨fun pins s σ H E I k => h.run pins s σ H E I (i E σ H k)⟩
/-! ### blocks -/
def sNil : DS := fun env τ => some (.nx env, τ)
def sSeq (f k : DS) : DS := fun env τ => bnd (f env τ) fun o τ' => match o with
  | .nx env' => k env' τ'
  | o => some (o, τ')
theorem js_nil : JSs X [] sNil := PSsi pss_nil fun E σ H ⟨g, Hs, env, τ, o, τ', r, hf, q⟩ => by
  cases hf
  exact q σ Hs H (.refl _) r
theorem js_cons {f k : DS} (h1 : JS X st f) (h2 : JSs X rest k) : JSs X (st :: rest) (sSeq f k) := PSsi (pss_cons h1 h2) fun E σ H ⟨g, Hs, env, τ, o, τ', r, hf, q⟩ => by
  obtain ⟨o1, τ1, h1, h2⟩ := bnd_eq hf
  refine ⟨g, Hs, env, τ, o1, τ1, r, h1, ?_⟩
  cases o1 with
  | nx env1 => exact fun σ' Hs' H' s r' => ⟨g, Hs', env1, τ1, o, τ', r', h2, q.mono s⟩
  | bk env1 => cases h2; exact q
  | ct env1 => cases h2; exact q
  | rt v => cases h2; exact q
theorem js_one {f : DS} (h1 : JS X st f) : JSs X [st] f := pss_one h1
def sPass : DS := fun env τ => some (.nx env, τ)
theorem js_if {c : Expr} {a b : List Stmt} {ct : DT} {f k : DS} (hc : JT X c ct) (ha : JSs X a f) (hb : JSs X b k) : JS X (.If c a b pos) (fun env τ => bnd (ct env τ) fun x τ' => if x = true then f env τ' else k env τ') :=
  PSi (ps_if hc ha hb) fun E σ H ⟨g, Hs, env, τ, o, τ', r, hf, q⟩ => by
    obtain ⟨x, τ1, h1, h2⟩ := bnd_eq hf
    refine ⟨g, Hs, env, τ, x, τ1, r, h1, fun Hs1 H1 u1 => ?_⟩
    cases x with
    | true => exact iteT ⟨g, Hs1, env, τ1, o, τ', r.up u1, h2, q.mono u1.s⟩
    | false => exact iteF ⟨g, Hs1, env, τ1, o, τ', r.up u1, h2, q.mono u1.s⟩
def sIf (c : DT) (f k : DS) : DS := fun env τ => bnd (c env τ) fun x τ' => if x = true then f env τ' else k env τ'
theorem jif_s {c : Expr} {a b : List Stmt} {ct : DT} {f k : DS} (hc : JT X c ct) (ha : JSs X a f) (hb : JSs X b k) : JS X (.If c a b pos) (sIf ct f k) := js_if hc ha hb
/-! ### return -/
def sRet (f : DE) : DS := fun env τ => bnd (f env τ) fun v τ' => match v with
  | .tp => none
  | v => some (.rt v, τ')
theorem Rel.old0 {g : G} {Hs H : Hp} {σ : Sl} {env : Ev} {τ : Tp} (r : Rel g Hs H σ env τ) {p : Addr} (h : H p = none) : g.H0 p = none := by
  cases e : g.H0 p with
  | none => rfl
  | some o =>
    by_cases hc : p = g.aT
    · subst hc; rw [r.tp.h] at h; cases h
    · rw [r.bs p o e hc] at h; cases h
theorem js_ret {f : DE} (he : JV X e f) : JS X (.Return (some e) pos) (sRet f) := PSi (ps_ret he) fun E σ H ⟨g, Hs, env, τ, o, τ', r, hf, q⟩ => by
  obtain ⟨v, τ1, h1, h2⟩ := bnd_eq hf
  refine ⟨g, Hs, env, τ, v, τ1, r, h1, fun w Hs1 H1 u1 rv fr => ?_⟩
  have h3 : o = .rt v ∧ τ' = τ1 := by
    cases v <;> first | (cases h2; exact ⟨rfl, rfl⟩) | cases h2
  obtain ⟨rfl, rfl⟩ := h3
  exact q w Hs1 H1 u1.s (r.up u1).bas rv fun ho p ep => r.old0 (fr ho p ep)
/-- return of one's own list or dict -/
def sRetO (i : Nat) : DS := fun env τ => match env[i]? with
  | some (some .tp) => none
  | some (some v) => some (.rt v, τ)
  | _ => none
theorem js_retO {i : Nat} {x : Str} {p1 : Pos} (hN : X.N[i]? = some x := by rfl) (hv : Vis X.env.scope x := by first | exact Or.inl rfl | exact Or.inr (Or.inl rfl) | exact Or.inr (Or.inr rfl)) (hd : (x == ("__debug__" : Str)) = false := by decide) (hcd : (x == ("__classdict__" : Str)) = false := by decide) :
    JS X (.Return (some (.Name x p1)) pos) (sRetO i) := PSi (ps_ret (pe_var hN hv hd hcd)) fun E σ H ⟨g, Hs, env, τ, o, τ', r, hf, q⟩ => by
  unfold sRetO at hf
  split at hf
  · cases hf
  · rename_i v hv he
    cases hf
    obtain ⟨w, h1, h2⟩ := r.sl i _ he
    exact ⟨w, h1, q w Hs H (.refl _) r.bas h2 fun ho p ep => r.ow i v p he ho (by rw [← ep]; exact h1)⟩
  · cases hf
/-! ### assignments -/
/-- the result is shared from here on; .. stays one's own -/
def sAsg (i : Nat) (f : DE) : DS := fun env τ => bnd (shD f env τ) fun d τ' => some (.nx (env.set i (some (.sh d))), τ')
def sAsgO (i : Nat) (f : DE) : DS := fun env τ => bnd (f env τ) fun v τ' => if v.own = true then some (.nx (env.set i (some v)), τ') else none
theorem shD_run {f : DE} {t : TE} (h : ∀ σ H Q, tV f σ H Q → t σ H Q) : ∀ σ H Q, tD (shD f) σ H Q → t σ H Q := fun σ H Q ⟨g, Hs, env, τ, d, τ', r, hf, q⟩ => by
  obtain ⟨v, τ1, h1, h2⟩ := bnd_eq hf
  refine h σ H Q ⟨g, Hs, env, τ, v, τ1, r, h1, fun w Hs' H' u rv fr => ?_⟩
  cases v with
  | sh d' => cases h2; exact q w Hs' H' u rv
  | ow ds =>
    cases h2
    obtain ⟨p, xs, rfl, n, hn, hp, hl, hr⟩ := rv
    have u2 := u.share (fr rfl p rfl) hp hn n
    exact q _ _ H' u2 (.lst upd_same hl (hr.to (same_upd hn)))
  | dk _ => cases h2
  | dt _ => cases h2
  | tp => cases h2
theorem asg_run {i : Nat} {f : DE} {t : TE} (h : ∀ σ H Q, tV f σ H Q → t σ H Q) : ∀ E σ H, tS (sAsg i f) E σ H → tAsg t (gName i) E σ H := fun E σ H ⟨g, Hs, env, τ, o, τ', r, hf, q⟩ => by
  obtain ⟨d, τ1, h1, h2⟩ := bnd_eq hf
  cases h2
  refine shD_run h σ H _ ⟨g, Hs, env, τ, d, _, r, h1, fun w Hs1 H1 u1 rd => ?_⟩
  exact q _ Hs1 H1 u1.s ((r.up u1).set i rd)
theorem Rel.apart {g : G} {Hs H : Hp} {σ : Sl} {env : Ev} {τ : Tp} (r : Rel g Hs H σ env τ) {p : Addr} (h : H p = none) (j : Nat) (u : Vl) (e : env[j]? = some (some u)) (ho : u.own = true) : σ[j]? ≠ some (some (.ref p)) := fun z => by
  obtain ⟨w, h1, h2⟩ := r.sl j u e
  rw [h1] at z
  cases z
  cases u with
  | sh d => cases ho
  | ow ds => obtain ⟨p', xs, e1, _, _, hp, _⟩ := h2; cases e1; rw [h] at hp; cases hp
  | dk ds => obtain ⟨p', xs, e1, _, _, hp, _⟩ := h2; cases e1; rw [h] at hp; cases hp
  | dt ds => obtain ⟨p', xs, e1, _, _, hp, _⟩ := h2; cases e1; rw [h] at hp; cases hp
  | tp => cases ho
theorem asgO_run {i : Nat} {f : DE} {t : TE} (h : ∀ σ H Q, tV f σ H Q → t σ H Q) : ∀ E σ H, tS (sAsgO i f) E σ H → tAsg t (gName i) E σ H := fun E σ H ⟨g, Hs, env, τ, o, τ', r, hf, q⟩ => by
  obtain ⟨v, τ1, h1, h2⟩ := bnd_eq hf
  split at h2
  · cases h2
    refine h σ H _ ⟨g, Hs, env, τ, v, _, r, h1, fun w Hs1 H1 u1 rv fr => ?_⟩
    exact q _ Hs1 H1 u1.s ((r.up u1).setv i rv fun ho p ep => ⟨r.old0 (fr ho p ep), fun j u e ho' => r.apart (fr ho p ep) j u e ho'⟩)
  · cases h2
theorem js_asg {i : Nat} {x : Str} {pos' : Pos} {f : DE} (hN : X.N.Nodup) (he : JV X e f) (hi : X.N[i]? = some x := by rfl) (hx : Loc X.env.scope x := by first | exact Or.inl rfl | exact Or.inr rfl) (hs : swapsWith e (some (.Name x pos')) pos.line X.env = pure false := by rfl) (hf : X.fn x = true ∨ X.env.scope.names.lookup x = some .local := by first | exact .inl rfl | exact .inr rfl) :
    JS X (.Assign [.Name x pos'] e pos) (sAsg i f) := PSi (ps_set hN hi hx he hs hf) (asg_run fun _ _ _ h => h)
theorem js_asgO {i : Nat} {x : Str} {pos' : Pos} {f : DE} (hN : X.N.Nodup) (he : JV X e f) (hi : X.N[i]? = some x := by rfl) (hx : Loc X.env.scope x := by first | exact Or.inl rfl | exact Or.inr rfl) (hs : swapsWith e (some (.Name x pos')) pos.line X.env = pure false := by rfl) (hf : X.fn x = true ∨ X.env.scope.names.lookup x = some .local := by first | exact .inl rfl | exact .inr rfl) :
    JS X (.Assign [.Name x pos'] e pos) (sAsgO i f) := PSi (ps_set hN hi hx he hs hf) (asgO_run fun _ _ _ h => h)
/-- a comprehension given to a local on one line -/
theorem js_asgC {i : Nat} {y : Str} {py spos : Pos} {elt tg iter : Expr} {ifs : List Expr} {scope : Scope} {own : List (Str × Nat)} {is : List Nat} {it : DI} {b : DG} {c : DT} {ed : DD} (hN : X.N.Nodup) (hi : JC X tg iter it) (ok : BlkOk X.N X.env.scope scope own)
    (hg : ∀ (s : Shared) (H : Hp) (C : Addr) (cl : List (Str × Addr)) (fp : List Addr), JG (X.blk s H scope (compEnvC scope cl C X.env) fp) tg is b)
    (ht : ∀ (s : Shared) (H : Hp) (C : Addr) (cl : List (Str × Addr)) (fp : List Addr), JTs (X.blk s H scope (compEnvC scope cl C X.env) fp) ifs c)
    (he : ∀ (s : Shared) (H : Hp) (C : Addr) (cl : List (Str × Addr)) (fp : List Addr), JD (X.blk s H scope (compEnvC scope cl C X.env) fp) elt ed)
    (hsw : swapsWith (.ListComp elt [⟨tg, iter, ifs, 0⟩] scope pos) (some (.Name y py)) spos.line X.env = pure true := by exact sw_true rfl rfl rfl (by decide +kernel))
    (his : ∀ i ∈ is, i ∈ own.map (·.2) := by decide) (hc : X.calm = true := by rfl) (hs : ∀ x, foldedSetIterable iter X.env x = pure x := by intro _; rfl) (hy : X.N[i]? = some y := by rfl) (hyl : X.env.scope.names.lookup y = some .local := by rfl) :
    JS X (.Assign [.Name y py] (.ListComp elt [⟨tg, iter, ifs, 0⟩] scope pos) spos) (sAsg i (dComp (own.map (·.2)) it b c ed)) := PSi (ps_setLc hc hN hy hyl hsw hi ok hg ht he hs) (asg_run (lc_run his))
theorem js_asgCO {i : Nat} {y : Str} {py spos : Pos} {elt tg iter : Expr} {ifs : List Expr} {scope : Scope} {own : List (Str × Nat)} {is : List Nat} {it : DI} {b : DG} {c : DT} {ed : DD} (hN : X.N.Nodup) (hi : JC X tg iter it) (ok : BlkOk X.N X.env.scope scope own)
    (hg : ∀ (s : Shared) (H : Hp) (C : Addr) (cl : List (Str × Addr)) (fp : List Addr), JG (X.blk s H scope (compEnvC scope cl C X.env) fp) tg is b)
    (ht : ∀ (s : Shared) (H : Hp) (C : Addr) (cl : List (Str × Addr)) (fp : List Addr), JTs (X.blk s H scope (compEnvC scope cl C X.env) fp) ifs c)
    (he : ∀ (s : Shared) (H : Hp) (C : Addr) (cl : List (Str × Addr)) (fp : List Addr), JD (X.blk s H scope (compEnvC scope cl C X.env) fp) elt ed)
    (hsw : swapsWith (.ListComp elt [⟨tg, iter, ifs, 0⟩] scope pos) (some (.Name y py)) spos.line X.env = pure true := by exact sw_true rfl rfl rfl (by decide +kernel))
    (his : ∀ i ∈ is, i ∈ own.map (·.2) := by decide) (hc : X.calm = true := by rfl) (hs : ∀ x, foldedSetIterable iter X.env x = pure x := by intro _; rfl) (hy : X.N[i]? = some y := by rfl) (hyl : X.env.scope.names.lookup y = some .local := by rfl) :
    JS X (.Assign [.Name y py] (.ListComp elt [⟨tg, iter, ifs, 0⟩] scope pos) spos) (sAsgO i (dComp (own.map (·.2)) it b c ed)) := PSi (ps_setLc hc hN hy hyl hsw hi ok hg ht he hs) (asgO_run (lc_run his))
/-- a, b = e, e a tuple -/
def sUnp (b : DG) (f : DD) : DS := fun env τ => bnd (f env τ) fun d τ' => (b d env).map fun env' => (.nx env', τ')
theorem js_unp {tg : Expr} {is : List Nat} {b : DG} {f : DD} (he : JD X e f) (hg : JG X tg is b) (hs : swapsWithSole [tg] e pos.line X.env = pure false := by rfl) (hw : swappedStores [tg] e X.env = pure none := by rfl) (h1 : (assignEach [tg] X.env).map (·.2) = [assign tg X.env] := by rfl) :
    JS X (.Assign [tg] e pos) (sUnp b f) := PSi (ps_asg he hg hs hw h1) fun E σ H ⟨g, Hs, env, τ, o, τ', r, hf, q⟩ => by
  obtain ⟨d, τ1, h1, h2⟩ := bnd_eq hf
  refine ⟨g, Hs, env, τ, d, τ1, r, h1, fun w Hs1 H1 u1 rd => ?_⟩
  cases hb : b d env with
  | none => rw [hb] at h2; cases h2
  | some env' =>
    rw [hb] at h2
    cases h2
    exact ⟨g, Hs1, env, _, d, env', r.up u1, rd, hb, fun σ' r' _ => q σ' Hs1 H1 u1.s r'⟩
/-! several values, own ones among them -/
abbrev DW := Ev → Tp → Option (List Vl × Tp)
/-- new own things stand apart -/
def OwnAp (H : Hp) (ws : List V) (vs : List Vl) : Prop := (∀ (i : Nat) v p, vs[i]? = some v → v.own = true → ws[i]? = some (V.ref p) → H p = none) ∧
  ∀ (i j : Nat) v v' p, vs[i]? = some v → vs[j]? = some v' → v.own = true → v'.own = true → ws[i]? = some (V.ref p) → ws[j]? = some (V.ref p) → i = j
def tWs (f : DW) : TA := fun σ H Q => ∃ g Hs env τ vs τ', Rel g Hs H σ env τ ∧ f env τ = some (vs, τ') ∧ ∀ ws Hs' H', Up g Hs H Hs' H' τ' → Paired (RepV g.aT Hs' H') ws vs → OwnAp H ws vs → Q ws H'
abbrev JWs (X : Cx) (es : List Expr) (f : DW) : Prop := PA X es (tWs f)
def wNil : DW := fun _ τ => some ([], τ)
/-- own: the value stays one's own; else it is shared -/
def wCons (f : DD) (k : DW) : DW := fun env τ => bnd (f env τ) fun x τ1 => bnd (k env τ1) fun xs τ2 => some (.sh x :: xs, τ2)
def wConsO (f : DE) (k : DW) : DW := fun env τ => bnd (f env τ) fun x τ1 => bnd (k env τ1) fun xs τ2 => if x.own = true then some (x :: xs, τ2) else none
theorem jw_nil : JWs X [] wNil := PAi pa_nil fun σ H Q ⟨g, Hs, env, τ, d, τ', r, hf, q⟩ => by
  cases hf
  exact q [] Hs H (.refl r.le r.tp) .nil ⟨fun i v p h => by simp at h, fun i j v v' p h => by simp at h⟩
variable {es : List Expr}
theorem jw_cons {f : DD} {k : DW} (he : JD X e f) (hk : JWs X es k) (hs : starEach (e :: es) X.env = (false, eval e X.env) :: starEach es X.env := by rfl) : JWs X (e :: es) (wCons f k) :=
  PAi (pa_cons he hk hs) fun σ H Q ⟨g, Hs, env, τ, ds, τ', r, hf, q⟩ => by
    obtain ⟨x, τ1, h1, h2⟩ := bnd_eq hf
    obtain ⟨xs, τ2, h3, h4⟩ := bnd_eq h2
    cases h4
    refine ⟨g, Hs, env, τ, x, τ1, r, h1, fun w Hs1 H1 u1 r1 => ?_⟩
    refine ⟨g, Hs1, env, τ1, xs, τ', r.up u1, h3, fun ws Hs2 H2 u2 r2 ap => ?_⟩
    refine q (w :: ws) Hs2 H2 (u1.trans u2) (.cons (r1.to u2.s) r2) ⟨fun i v p hv ho hw => ?_, fun i j v v' p hv hv' ho ho' hw hw' => ?_⟩
    · cases i with
      | zero => simp at hv; subst hv; cases ho
      | succ i => exact u1.old (ap.1 i v p (by simpa using hv) ho (by simpa using hw))
    · cases i with
      | zero => simp at hv; subst hv; cases ho
      | succ i =>
        cases j with
        | zero => simp at hv'; subst hv'; cases ho'
        | succ j => rw [ap.2 i j v v' p (by simpa using hv) (by simpa using hv') ho ho' (by simpa using hw) (by simpa using hw')]
theorem jw_consO {f : DE} {k : DW} (he : JV X e f) (hk : JWs X es k) (hs : starEach (e :: es) X.env = (false, eval e X.env) :: starEach es X.env := by rfl) : JWs X (e :: es) (wConsO f k) :=
  PAi (pa_cons he hk hs) fun σ H Q ⟨g, Hs, env, τ, ds, τ', r, hf, q⟩ => by
    obtain ⟨x, τ1, h1, h2⟩ := bnd_eq hf
    obtain ⟨xs, τ2, h3, h4⟩ := bnd_eq h2
    split at h4
    · rename_i hox
      cases h4
      refine ⟨g, Hs, env, τ, x, τ1, r, h1, fun w Hs1 H1 u1 r1 fr => ?_⟩
      refine ⟨g, Hs1, env, τ1, xs, τ', r.up u1, h3, fun ws Hs2 H2 u2 r2 ap => ?_⟩
      have there : ∀ p, w = .ref p → ∃ o, H1 p = some o := fun p ep => by
        cases x with
        | sh d => cases hox
        | ow ds => obtain ⟨p', xs, e1, _, _, hp, _⟩ := r1; rw [ep] at e1; cases e1; exact ⟨_, hp⟩
        | dk ds => obtain ⟨p', xs, e1, _, _, hp, _⟩ := r1; rw [ep] at e1; cases e1; exact ⟨_, hp⟩
        | dt ds => obtain ⟨p', xs, e1, _, _, hp, _⟩ := r1; rw [ep] at e1; cases e1; exact ⟨_, hp⟩
        | tp => cases hox
      refine q (w :: ws) Hs2 H2 (u1.trans u2) (.cons (RepV.up u2 r1) r2) ⟨fun i v p hv ho hw => ?_, fun i j v v' p hv hv' ho ho' hw hw' => ?_⟩
      · cases i with
        | zero =>
          simp at hv hw
          subst hv
          exact fr ho p hw
        | succ i => exact u1.old (ap.1 i v p (by simpa using hv) ho (by simpa using hw))
      · cases i with
        | zero =>
          cases j with
          | zero => rfl
          | succ j =>
            simp at hw
            obtain ⟨o, z⟩ := there p hw
            rw [ap.1 j v' p (by simpa using hv') ho' (by simpa using hw')] at z
            cases z
        | succ i =>
          cases j with
          | zero =>
            simp at hw'
            obtain ⟨o, z⟩ := there p hw'
            rw [ap.1 i v p (by simpa using hv) ho (by simpa using hw)] at z
            cases z
          | succ j => rw [ap.2 i j v v' p (by simpa using hv) (by simpa using hv') ho ho' (by simpa using hw) (by simpa using hw')]
    · cases h4
def setV (is : List Nat) (vs : List Vl) (env : Ev) : Ev := (is.zip vs).foldl (fun e p => e.set p.1 (some p.2)) env
def setW (is : List Nat) (ws : List V) (σ : Sl) : Sl := (is.zip ws).foldl (fun e p => e.set p.1 (some p.2)) σ
theorem Rel.setAll {g : G} {Hs H0 H : Hp} {τ : Tp} (hb : ∀ b o, g.H0 b = some o → b ≠ g.aT → H0 b = some o) (hT : ∃ o, H0 g.aT = some o) : ∀ {is : List Nat} {ws : List V} {vs : List Vl} {σ : Sl} {env : Ev}, Rel g Hs H σ env τ → Paired (RepV g.aT Hs H) ws vs → OwnAp H0 ws vs →
    (∀ (k : Nat) v p, vs[k]? = some v → v.own = true → ws[k]? = some (V.ref p) → ∀ (j : Nat) (u : Vl), env[j]? = some (some u) → u.own = true → σ[j]? ≠ some (some (.ref p))) →
    Rel g Hs H (setW is ws σ) (setV is vs env) τ
  | [], _, _, _, _, r, _, _, _ => r
  | _ :: _, _, _, _, _, r, .nil, _, _ => r
  | i :: is, _, _, σ, env, r, @Paired.cons _ _ _ w v ws vs a b, ap, hd => by
    have r1 : Rel g Hs H (σ.set i (some w)) (env.set i (some v)) τ := r.setv i a fun ho p ep => ⟨(by
      have h0 := ap.1 0 v p rfl ho (by rw [ep]; rfl)
      cases e : g.H0 p with
      | none => rfl
      | some o =>
        by_cases hc : p = g.aT
        · subst hc; obtain ⟨o', z⟩ := hT; rw [z] at h0; cases h0
        · rw [hb p o e hc] at h0; cases h0), fun j u e ho' => hd 0 v p rfl ho (by rw [ep]; rfl) j u e ho'⟩
    refine Rel.setAll hb hT (is := is) r1 b ⟨fun k v' p h1 h2 h3 => ap.1 (k + 1) v' p (by simpa using h1) h2 (by simpa using h3), fun k j v1 v2 p h1 h2 h3 h4 h5 h6 => by
      have := ap.2 (k + 1) (j + 1) v1 v2 p (by simpa using h1) (by simpa using h2) h3 h4 (by simpa using h5) (by simpa using h6)
      omega⟩ fun k v' p h1 h2 h3 j u e ho' z => ?_
    by_cases hj : i = j
    · subst hj
      by_cases hl : i < env.length
      · rw [List.getElem?_set_self hl] at e
        rw [List.getElem?_set_self (by rw [← r.ln]; exact hl)] at z
        cases e; cases z
        have := ap.2 0 (k + 1) v v' p rfl (by simpa using h1) ho' h2 rfl (by simpa using h3)
        omega
      · rw [List.getElem?_eq_none (by rw [List.length_set]; omega)] at e
        cases e
    · rw [List.getElem?_set_ne hj] at e z
      exact hd (k + 1) v' p (by simpa using h1) h2 (by simpa using h3) j u e ho' z
def sPar (is : List Nat) (f : DW) : DS := fun env τ => bnd (f env τ) fun vs τ' => if vs.length = is.length then some (.nx (setV is vs env), τ') else none
theorem paired_len' {α β : Type} {R : α → β → Prop} {as : List α} {bs : List β} (h : Paired R as bs) : as.length = bs.length := paired_len h
theorem par_rel {g : G} {Hs Hs1 H H1 H2 : Hp} {σ : Sl} {env : Ev} {τ τ1 : Tp} {is : List Nat} {ws : List V} {vs : List Vl} (r : Rel g Hs H σ env τ) (u1 : Up g Hs H Hs1 H1 τ1) (u2 : Up g Hs1 H1 Hs1 H2 τ1) (rv : Paired (RepV g.aT Hs1 H1) ws vs) (ap : OwnAp H ws vs) :
    Rel g Hs1 H2 (setW is ws σ) (setV is vs env) τ1 :=
  Rel.setAll r.bs ⟨_, r.tp.h⟩ ((r.up u1).up u2) (Paired.mapP rv fun _ _ z => z.up u2) ap fun k v p h1 h2 h3 j u e ho z => r.apart (ap.1 k v p h1 h2 h3) j u e ho z
/-- a, b = x, y: two plain locals -/
theorem js_par2 {i j : Nat} {x y : Str} {a b : Expr} {f : DW} {px py pt : Pos} {kt k2 : Nat} {pt2 : Pos} (hN : X.N.Nodup) (ha : JWs X [a, b] f) (hi : X.N[i]? = some x := by rfl) (hj : X.N[j]? = some y := by rfl) (hij : i ≠ j := by decide) (hx : X.env.scope.names.lookup x = some .local := by rfl) (hy : X.env.scope.names.lookup y = some .local := by rfl)
    (hw : swappedStores [.Tuple [.Name x px, .Name y py] kt pt] (.Tuple [a, b] k2 pt2) X.env = pure (some [x, y]) := by rfl) (hs : swapsWithSole [.Tuple [.Name x px, .Name y py] kt pt] (.Tuple [a, b] k2 pt2) pos.line X.env = pure false := by rfl) (hc : X.calm = true := by rfl) :
    JS X (.Assign [.Tuple [.Name x px, .Name y py] kt pt] (.Tuple [a, b] k2 pt2) pos) (sPar [i, j] f) := PSi (ps_par hc hN hi hj hij hx hy ha hw hs) fun E σ H ⟨g, Hs, env, τ, o, τ', r, hf, q⟩ => by
  obtain ⟨vs, τ1, h1, h2⟩ := bnd_eq hf
  split at h2
  · rename_i hl
    cases h2
    refine ⟨g, Hs, env, τ, vs, _, r, h1, fun ws Hs1 H1 u1 rv ap => ?_⟩
    have hr := par_rel (is := [i, j]) r u1 (Up.refl u1.le u1.tp) rv ap
    cases rv with
    | nil => cases hl
    | cons a b =>
      cases b with
      | nil => cases hl
      | cons a2 b2 =>
        cases b2 with
        | nil => exact ⟨_, _, rfl, q _ Hs1 H1 u1.s hr⟩
        | cons _ _ => cases hl
  · cases h2
/-- through a tuple that is made and taken apart -/
def gAll (is : List Nat) : TGs := fun ws σ H Q => ws.length = is.length ∧ Q (setW is ws σ) H
theorem ga_nil : PGs X [] (gAll []) := PGsi pgs_nil fun v σ H Q ⟨hl, q⟩ => ⟨List.eq_nil_of_length_eq_zero hl, q⟩
theorem ga_cons {i : Nat} {is : List Nat} {x : Str} {p1 : Pos} {es : List Expr} (hN : X.N.Nodup) (h2 : PGs X es (gAll is)) (hi : X.N[i]? = some x := by rfl) (hx : Loc X.env.scope x := by first | exact Or.inl rfl | exact Or.inr rfl) (hf : X.fn x = true ∨ X.env.scope.names.lookup x = some .local := by first | exact .inl rfl | exact .inr rfl) (hs : (assignEach (.Name x p1 :: es) X.env).map (·.2) = assign (.Name x p1) X.env :: (assignEach es X.env).map (·.2) := by rfl) : PGs X (.Name x p1 :: es) (gAll (i :: is)) :=
  PGsi (pgs_cons (pg_name hN hi hx hf) h2 hs) fun ws σ H Q ⟨hl, q⟩ => by
    cases ws with
    | nil => cases hl
    | cons w ws => exact ⟨w, ws, rfl, by simpa using hl, q⟩
theorem js_parT {ts es : List Expr} {is : List Nat} {f : DW} {kt k2 : Nat} {pt pt2 : Pos} (ha : JWs X es f) (hg : PGs X ts (gAll is)) (hl2 : is.length ≤ 1000 := by decide) (hc : X.calm = true := by rfl) (hn : (assignEach ts X.env).length = is.length := by rfl) (hst : (assignEach ts X.env).findIdx? (·.1) = none := by rfl)
    (hs : swapsWithSole [.Tuple ts kt pt] (.Tuple es k2 pt2) pos.line X.env = pure false := by rfl) (hw : swappedStores [.Tuple ts kt pt] (.Tuple es k2 pt2) X.env = pure none := by rfl) (h1 : (assignEach [.Tuple ts kt pt] X.env).map (·.2) = [assign (.Tuple ts kt pt) X.env] := by rfl) :
    JS X (.Assign [.Tuple ts kt pt] (.Tuple es k2 pt2) pos) (sPar is f) := PSi (ps_asg (pe_tup ha) (pg_tup hc hg hn hst) hs hw h1) fun E σ H ⟨g, Hs, env, τ, o, τ', r, hf, q⟩ => by
  obtain ⟨vs, τ1, h1, h2⟩ := bnd_eq hf
  split at h2
  · rename_i hl
    cases h2
    refine ⟨g, Hs, env, τ, vs, _, r, h1, fun ws Hs1 H1 u1 rv ap => ?_⟩
    have hlw : ws.length = is.length := by rw [paired_len rv]; exact hl
    refine ⟨Nat.le_trans (by rw [hlw]; exact hl2) line1000, fun p hp => ⟨p, ws, rfl, .of upd_same, hlw, hlw, ?_⟩⟩
    exact q _ Hs1 _ u1.s (par_rel (is := is) r u1 ((Up.refl u1.le u1.tp).mk1 hp) rv ap)
  · cases h2
/-! ### one's own lists and dicts changed -/
def frz (i : Nat) (f : DS) : DS := fun env τ => match env[i]? with
  | some (some (.ow ds)) => f (env.set i (some (.sh (.list ds)))) τ
  | _ => f env τ
theorem Rel.freeze {g : G} {Hs H : Hp} {σ : Sl} {env : Ev} {τ : Tp} {i : Nat} {ds : List D} (r : Rel g Hs H σ env τ) (he : env[i]? = some (some (.ow ds))) : ∃ Hs', Same Hs Hs' ∧ Rel g Hs' H σ (env.set i (some (.sh (.list ds)))) τ := by
  obtain ⟨w, h1, p, xs, rfl, nT, hn, hp, hl, hr⟩ := r.sl i _ he
  have h0 := r.ow i _ p he rfl h1
  have nS : g.aS ≠ p := fun e => by subst e; rw [r.tp.s] at hn; cases hn
  have hi : i < env.length := (List.getElem?_eq_some_iff.mp he).1
  have sm : Same Hs (upd Hs p (.lst xs)) := same_upd hn
  refine ⟨upd Hs p (.lst xs), sm, fun b q e => ?_, ⟨r.tp.h, by rw [upd_ne nT.symm]; exact r.tp.n, sm _ _ r.tp.s, r.tp.l⟩, r.ls.trans sm, r.bs, fun b o e n => ?_, fun j v e => ?_, fun j v q e ho hq => ?_, fun j k v v' q e e' ho ho' hq hq' => ?_, by rw [List.length_set]; exact r.ln⟩
  · by_cases hb : b = p
    · subst hb; rw [upd_same] at e; cases e; exact hp
    · rw [upd_ne hb] at e; exact r.le _ _ e
  · by_cases hb : b = p
    · subst hb; exact h0
    · rw [upd_ne hb] at e; exact r.fr _ _ e n
  · by_cases hj : i = j
    · subst hj
      rw [List.getElem?_set_self hi] at e
      cases e
      exact ⟨_, h1, .lst upd_same hl (hr.to sm)⟩
    · rw [List.getElem?_set_ne hj] at e
      obtain ⟨w, h2, h3⟩ := r.sl j v e
      refine ⟨w, h2, ?_⟩
      have key : ∀ p', w = .ref p' → v.own = true → p' ≠ p := fun p' e1 ho e2 => by
        subst e1; subst e2
        exact hj (r.ap i j _ v _ he e rfl ho h1 h2)
      cases v with
      | sh d => exact Rp.to h3 sm
      | ow ds' =>
        obtain ⟨p', xs', e1, n1, n2, n3, n4, n5⟩ := h3
        exact ⟨p', xs', e1, n1, by rw [upd_ne (key p' e1 rfl)]; exact n2, n3, n4, n5.to sm⟩
      | dk ds' =>
        obtain ⟨p', xs', e1, n1, n2, n3, n4⟩ := h3
        exact ⟨p', xs', e1, n1, by rw [upd_ne (key p' e1 rfl)]; exact n2, n3, n4.to sm⟩
      | dt ds' =>
        obtain ⟨p', xs', e1, n1, n2, n3, n4⟩ := h3
        exact ⟨p', xs', e1, n1, by rw [upd_ne (key p' e1 rfl)]; exact n2, n3, n4.to sm⟩
      | tp => exact h3
  · by_cases hj : i = j
    · subst hj
      rw [List.getElem?_set_self hi] at e
      cases e; cases ho
    · rw [List.getElem?_set_ne hj] at e
      exact r.ow j v q e ho hq
  · by_cases hj : i = j
    · subst hj
      rw [List.getElem?_set_self hi] at e
      cases e; cases ho
    · by_cases hk : i = k
      · subst hk
        rw [List.getElem?_set_self hi] at e'
        cases e'; cases ho'
      · rw [List.getElem?_set_ne hj] at e
        rw [List.getElem?_set_ne hk] at e'
        exact r.ap j k v v' q e e' ho ho' hq hq'
theorem frz_run {i : Nat} {f : DS} : ∀ E σ H, tS (frz i f) E σ H → tS f E σ H := fun E σ H ⟨g, Hs, env, τ, o, τ', r, hf, q⟩ => by
  unfold frz at hf
  split at hf
  · rename_i ds he
    obtain ⟨Hs', s, r'⟩ := r.freeze he
    exact ⟨g, Hs', _, τ, o, τ', r', hf, q.mono s⟩
  · exact ⟨g, Hs, env, τ, o, τ', r, hf, q⟩
theorem jfrz {f : DS} (i : Nat) (h : JS X st f) : JS X st (frz i f) := PSi h frz_run
theorem jfrzs {f : DS} (i : Nat) (h : JSs X sts f) : JSs X sts (frz i f) := PSsi h frz_run
/-- an own list or dict is written -/
theorem Rel.mut {g : G} {Hs H : Hp} {σ : Sl} {env : Ev} {τ : Tp} {i : Nat} {v v' : Vl} {p : Addr} {o' : HO} (r : Rel g Hs H σ env τ) (he : env[i]? = some (some v)) (ho : v.own = true) (hσ : σ[i]? = some (some (.ref p))) (nT : p ≠ g.aT) (hn : Hs p = none)
    (hr : RepV g.aT Hs (upd H p o') (.ref p) v') : Rel g Hs (upd H p o') σ (env.set i (some v')) τ := by
  have hi : i < env.length := (List.getElem?_eq_some_iff.mp he).1
  have h0 := r.ow i v p he ho hσ
  refine ⟨fun b q e => by rw [upd_ne (ne_of_none e hn)]; exact r.le b q e, ⟨by rw [upd_ne nT.symm]; exact r.tp.h, r.tp.n, r.tp.s, r.tp.l⟩, r.ls, fun b q e n => by rw [upd_ne (ne_of_none e h0)]; exact r.bs b q e n, r.fr, fun j u e => ?_, fun j u q e ho' hq => ?_, fun j k u u' q e e' ho1 ho2 hq hq' => ?_, by rw [List.length_set]; exact r.ln⟩
  · by_cases hj : i = j
    · subst hj
      rw [List.getElem?_set_self hi] at e
      cases e
      exact ⟨_, hσ, hr⟩
    · rw [List.getElem?_set_ne hj] at e
      obtain ⟨w, h2, h3⟩ := r.sl j u e
      refine ⟨w, h2, ?_⟩
      have key : ∀ p', w = .ref p' → u.own = true → p' ≠ p := fun p' e1 ho' e2 => by
        subst e1; subst e2
        exact hj (r.ap i j _ u _ he e ho ho' hσ h2)
      cases u with
      | sh d => exact h3
      | ow ds' =>
        obtain ⟨p', xs', e1, n1, n2, n3, n4, n5⟩ := h3
        exact ⟨p', xs', e1, n1, n2, by rw [upd_ne (key p' e1 rfl)]; exact n3, n4, n5⟩
      | dk ds' =>
        obtain ⟨p', xs', e1, n1, n2, n3, n4⟩ := h3
        exact ⟨p', xs', e1, n1, n2, by rw [upd_ne (key p' e1 rfl)]; exact n3, n4⟩
      | dt ds' =>
        obtain ⟨p', xs', e1, n1, n2, n3, n4⟩ := h3
        exact ⟨p', xs', e1, n1, n2, by rw [upd_ne (key p' e1 rfl)]; exact n3, n4⟩
      | tp => exact h3
  · by_cases hj : i = j
    · subst hj
      rw [hσ] at hq; cases hq
      exact h0
    · rw [List.getElem?_set_ne hj] at e
      exact r.ow j u q e ho' hq
  · by_cases hj : i = j
    · by_cases hk : i = k
      · exact hj.symm.trans hk
      · subst hj
        rw [List.getElem?_set_ne hk] at e'
        rw [hσ] at hq; cases hq
        exact r.ap i k v u' p he e' ho ho2 hσ hq'
    · by_cases hk : i = k
      · subst hk
        rw [List.getElem?_set_ne hj] at e
        rw [hσ] at hq'; cases hq'
        exact r.ap j i u v p e he ho1 ho hq hσ
      · rw [List.getElem?_set_ne hj] at e
        rw [List.getElem?_set_ne hk] at e'
        exact r.ap j k u u' q e e' ho1 ho2 hq hq'
/-- a list's method that changes it: its arguments, the new list -/
def MutS (rm : V → List V → Hp → VK → Prop) (mV : List D → List D → Option (List D)) : Prop := ∀ (g : G) (Hs H : Hp) (τ : Tp) (p : Addr) (xs : List V) (ds : List D) (ws : List V) (as ds' : List D) (Q : VK), Same Hs H → TpOk g Hs H τ → H p = some (.lst xs) → xs.length ≤ sizeLine → Rps Hs xs ds → Rps Hs ws as → mV ds as = some ds' →
  (∀ w xs', xs'.length ≤ sizeLine → Rps Hs xs' ds' → Q w (upd H p (.lst xs'))) → rm (.ref p) ws H Q
def sMut (i : Nat) (mV : List D → List D → Option (List D)) (k : DA) : DS := fun env τ => bnd (k env τ) fun as τ' => match env[i]? with
  | some (some (.ow ds)) => match mV ds as with
    | some ds' => some (.nx (env.set i (some (.ow ds'))), τ')
    | none => none
  | _ => none
theorem mut_run {i : Nat} {rm : V → List V → Hp → VK → Prop} {mV : List D → List D → Option (List D)} {k : DA} (hm : MutS rm mV) : ∀ E σ H, tS (sMut i mV k) E σ H → tDrop (tBM X.K "list" rm (tVar i) (tAs k)) E σ H := fun E σ H ⟨g, Hs, env, τ, o, τ', r, hf, q⟩ => by
  obtain ⟨ds0, τ1, h1, h2⟩ := bnd_eq hf
  split at h2
  · rename_i ds he
    split at h2
    · rename_i ds' hmv
      cases h2
      obtain ⟨w, hw, p, xs, rfl, nT, hn, hH, hl, hr⟩ := r.sl i _ he
      refine ⟨_, hw, .inl ⟨rfl, _, SqL.of hH⟩, g, Hs, env, τ, _, _, r, h1, fun ws Hs1 H1 u1 rs => ?_⟩
      have r1 := r.up u1
      have hH1 := u1.h _ _ hH nT
      have hn1 : Hs1 p = none := by
        cases z : Hs1 p with
        | none => rfl
        | some o => rw [u1.f p o z hn] at hH; cases hH
      refine hm g Hs1 H1 _ p xs ds ws _ ds' _ u1.le u1.tp hH1 hl (hr.to u1.s) rs hmv fun w xs' hl' hr' => ?_
      exact q σ Hs1 _ u1.s (r1.mut he rfl hw nT hn1 ⟨p, xs', rfl, nT, hn1, upd_same, hl', hr'⟩)
    · cases h2
  · cases h2
theorem js_mut {i : Nat} {x m : Str} {id : String} {rm : V → List V → Hp → VK → Prop} {mV : List D → List D → Option (List D)} {a : Expr} {as : List Expr} {k : DA} {p1 p2 p3 : Pos} (slot : Slot "list" m id) (hty : typeOf (.builtin id) = pure (.type "method_descriptor")) (hmt : MtR X id rm) (hm : MutS rm mV) (ha : JAs X (a :: as) k)
    (hN : X.N[i]? = some x := by rfl) (hv : Vis X.env.scope x := by first | exact Or.inl rfl | exact Or.inr (Or.inl rfl) | exact Or.inr (Or.inr rfl)) (hd : (x == ("__debug__" : Str)) = false := by decide) (hcd : (x == ("__classdict__" : Str)) = false := by decide)
    (hbase : attributeBase (.Name x p1) m X.env (eval (.Name x p1) X.env) = eval (.Name x p1) X.env := by rfl)
    (hfew : ((backTo p3 (starEach (a :: as) X.env)).all (fun x => !x.1) && (backToKw p3 (keywordEach [] X.env)).all (fun x => x.1.isSome)
      && decide ((a :: as).length + ([] : List Keyword).length + (if ([] : List Keyword).isEmpty then 0 else 1) < 30)) = true := by rfl)
    (hline : (p2.endLine == p3.line) = true := by rfl) (h1 : starEach (a :: as) X.env = (false, eval a X.env) :: starEach as X.env := by rfl) (hplain : (backTo p3 (starEach as X.env)).any (·.1) = false := by rfl)
    (hs : swapsWith (.Call (.Attribute (.Name x p1) m p2) (a :: as) [] p3) none pos.line X.env = pure false := by rfl) : JS X (.Expr (.Call (.Attribute (.Name x p1) m p2) (a :: as) [] p3) pos) (sMut i mV k) :=
  PSi (ps_expr (pe_bm PySem.F.plainAttrs_list slot hty hmt (pe_var hN hv hd hcd) ha hbase hfew hline h1 hplain) hs) (mut_run hm)
def appV (ds as : List D) : Option (List D) := match as with
  | [y] => if ds.length < 16777216 then some (ds ++ [y]) else none
  | _ => none
theorem app_m : MutS rAppend appV := by
  intro g Hs H τ p xs ds ws as ds' Q le tp hp hl hr hw hm q
  unfold appV at hm
  split at hm
  · split at hm
    · rename_i y hc
      cases hm
      cases hw with
      | cons a b =>
        cases b
        have hl2 : xs.length < sizeLine := by rw [hr.len, line_eq]; exact hc
        exact ⟨p, xs, _, rfl, rfl, hp, hl2, q _ _ (by rw [List.length_append]; exact hl2) (hr.snoc a)⟩
    · cases hm
  · cases hm
def extV (ds as : List D) : Option (List D) := match as with
  | [.list ys] => if ds.length + ys.length ≤ 16777216 then some (ds ++ ys) else none
  | _ => none
theorem ext_m : MutS rExtend extV := by
  intro g Hs H τ p xs ds ws as ds' Q le tp hp hl hr hw hm q
  unfold extV at hm
  split at hm
  · split at hm
    · rename_i y hc
      cases hm
      cases hw with
      | cons a b =>
        cases b
        cases a with
        | lst h1 h2 h3 =>
          rename_i zs
          have hl2 : xs.length + zs.length ≤ sizeLine := by rw [hr.len, h3.len, line_eq]; exact hc
          exact ⟨p, _, xs, zs, rfl, rfl, hp, le _ _ h1, hl2, q _ _ (by rw [List.length_append]; exact hl2) (hr.app h3)⟩
    · cases hm
  · cases hm
def insV (ds as : List D) : Option (List D) := match as with
  | [.int i, y] => if ds.length < 16777216 ∧ 0 ≤ i ∧ i < 16777216 then some (ds.take i.toNat ++ [y] ++ ds.drop i.toNat) else none
  | _ => none
theorem ins_m : MutS (fun x vs H Q => ∃ (l : Addr) (xs : List V) (i : Int) (y : V), x = .ref l ∧ vs = [.int i, y] ∧ H l = some (.lst xs) ∧ xs.length < sizeLine ∧ 0 ≤ i ∧ i < 2 ^ 63 ∧
    Q .non (upd H l (.lst (xs.take i.toNat ++ [y] ++ xs.drop i.toNat)))) insV := by
  intro g Hs H τ p xs ds ws as ds' Q le tp hp hl hr hw hm q
  unfold insV at hm
  split at hm
  · split at hm
    · rename_i i y hc
      cases hm
      cases hw with
      | cons a b =>
        cases a
        cases b with
        | cons a2 b2 =>
          cases b2
          have hl2 : xs.length < sizeLine := by rw [hr.len, line_eq]; exact hc.1
          refine ⟨p, xs, i, _, rfl, rfl, hp, hl2, hc.2.1, by omega, q _ _ ?_ (((hr.take _).snoc a2).app (hr.drop _))⟩
          rw [List.length_append, List.length_append, List.length_take, List.length_drop, List.length_singleton]
          omega
    · cases hm
  · cases hm
def popV (ds as : List D) : Option (List D) := match as with
  | [.int i] => if 0 ≤ i ∧ i < ds.length ∧ i < 16777216 then some (ds.eraseIdx i.toNat) else none
  | _ => none
theorem seqIx_nat {i : Int} {n : Nat} (h0 : 0 ≤ i) (h1 : i < n) : seqIndex? i n = some i.toNat := by
  have h : ixN n i = some i.toNat := by unfold ixN; rw [if_pos h0, if_pos h1]
  exact (ixN_seq h).1
theorem pop_m : MutS rPopAt popV := by
  intro g Hs H τ p xs ds ws as ds' Q le tp hp hl hr hw hm q
  unfold popV at hm
  split at hm
  · split at hm
    · rename_i i hc
      cases hm
      cases hw with
      | cons a b =>
        cases b
        cases a
        have hlen := hr.len
        have hi : i.toNat < xs.length := by omega
        refine ⟨p, xs, i, i.toNat, xs[i.toNat], rfl, rfl, hp, by omega, by omega, seqIx_nat hc.1 (by omega), List.getElem?_eq_getElem hi, q _ _ (Nat.le_trans (len_erase _ _) hl) (hr.erase _)⟩
    · cases hm
  · cases hm
/-- y = x.pop() -/
def sPop (j i : Nat) : DS := fun env τ => match env[i]? with
  | some (some (.ow ds)) => match ds.getLast? with
    | some d => some (.nx ((env.set i (some (.ow ds.dropLast))).set j (some (.sh d))), τ)
    | none => none
  | _ => none
theorem js_pop {i j : Nat} {x y : Str} {p0 p1 p2 p3 : Pos} (hNd : X.N.Nodup)
    (hN : X.N[i]? = some x := by rfl) (hv : Vis X.env.scope x := by first | exact Or.inl rfl | exact Or.inr (Or.inl rfl) | exact Or.inr (Or.inr rfl)) (hd : (x == ("__debug__" : Str)) = false := by decide) (hcd : (x == ("__classdict__" : Str)) = false := by decide)
    (hbase : attributeBase (.Name x p1) "pop" X.env (eval (.Name x p1) X.env) = eval (.Name x p1) X.env := by rfl) (hline : (p2.endLine == p3.line) = true := by rfl)
    (hj : X.N[j]? = some y := by rfl) (hy : Loc X.env.scope y := by first | exact Or.inl rfl | exact Or.inr rfl) (hs : swapsWith (.Call (.Attribute (.Name x p1) "pop" p2) [] [] p3) (some (.Name y p0)) pos.line X.env = pure false := by rfl) (hf : X.fn y = true ∨ X.env.scope.names.lookup y = some .local := by first | exact .inl rfl | exact .inr rfl) :
    JS X (.Assign [.Name y p0] (.Call (.Attribute (.Name x p1) "pop" p2) [] [] p3) pos) (sPop j i) := PSi (ps_set hNd hj hy (pe_bm0 PySem.F.plainAttrs_list PySem.F.slot_list_pop PySem.F.type_list_pop mt_pop (pe_var hN hv hd hcd) hbase hline) hs hf) fun E σ H ⟨g, Hs, env, τ, o, τ', r, hf, q⟩ => by
  unfold sPop at hf
  split at hf
  · rename_i ds he
    split at hf
    · rename_i d hd
      cases hf
      obtain ⟨w, hw, p, xs, rfl, nT, hn, hH, hl, hr⟩ := r.sl i _ he
      rw [List.getLast?_eq_getElem?, ← hr.len] at hd
      obtain ⟨v, hv, rv⟩ := hr.get hd
      refine ⟨_, hw, .inl ⟨rfl, _, SqL.of hH⟩, p, xs, v, rfl, rfl, hH, hv, ?_⟩
      have r1 := r.mut (v' := .ow ds.dropLast) (o' := .lst xs.dropLast) he rfl hw nT hn ⟨p, xs.dropLast, rfl, nT, hn, upd_same, Nat.le_trans (by rw [List.length_dropLast]; omega) hl, hr.dropLast⟩
      exact q _ Hs _ (.refl _) (r1.set j rv)
    · cases hf
  · cases hf
/-! x[k] = e -/
def sPutL (i : Nat) (f k : DD) : DS := fun env τ => bnd (f env τ) fun x τ1 => bnd (k env τ1) fun j τ2 => match env[i]?, j with
  | some (some (.ow ds)), .int n => match ixN ds.length n with
    | some m => some (.nx (env.set i (some (.ow (ds.set m x)))), τ2)
    | none => none
  | _, _ => none
theorem js_putL {i : Nat} {x : Str} {ev ei : Expr} {f k : DD} {p1 p2 : Pos} (he : JD X ev f) (hi : JD X ei k)
    (hN : X.N[i]? = some x := by rfl) (hv : Vis X.env.scope x := by first | exact Or.inl rfl | exact Or.inr (Or.inl rfl) | exact Or.inr (Or.inr rfl)) (hd : (x == ("__debug__" : Str)) = false := by decide) (hcd : (x == ("__classdict__" : Str)) = false := by decide)
    (hs : swapsWithSole [.Subscript (.Name x p1) ei p2] ev pos.line X.env = pure false := by rfl) (hw : swappedStores [.Subscript (.Name x p1) ei p2] ev X.env = pure none := by rfl) (h1 : (assignEach [.Subscript (.Name x p1) ei p2] X.env).map (·.2) = [assign (.Subscript (.Name x p1) ei p2) X.env] := by rfl)
    (ha : ∀ v, assign (.Subscript (.Name x p1) ei p2) X.env v = (do
      let ov ← holding [v] (eval (.Name x p1) X.env)
      let iv ← holding [v, ov] (eval ei X.env)
      standAt p2
      holding [v, ov, iv] (setItem ov iv v)
      release [v, ov, iv] []) := by intro _; rfl) : JS X (.Assign [.Subscript (.Name x p1) ei p2] ev pos) (sPutL i f k) :=
  PSi (ps_asg he (pg_sub (pe_var hN hv hd hcd) hi set_list ha) hs hw h1) fun E σ H ⟨g, Hs, env, τ, o, τ', r, hf, q⟩ => by
    obtain ⟨d, τ1, h1, h2⟩ := bnd_eq hf
    obtain ⟨j, τ2, h3, h4⟩ := bnd_eq h2
    refine ⟨g, Hs, env, τ, d, τ1, r, h1, fun w Hs1 H1 u1 rd => ?_⟩
    split at h4
    · rename_i ds n he
      split at h4
      · rename_i m hm
        cases h4
        obtain ⟨wl, hw, p, xs, rfl, nT, hn, hH, hl, hr⟩ := r.sl i _ he
        refine ⟨_, hw, g, Hs1, env, τ1, _, _, r.up u1, h3, fun w2 Hs2 H2 u2 rj => ?_⟩
        have u := u1.trans u2
        have r2 := r.up u
        cases rj
        have hH2 := u.h _ _ hH nT
        have hn2 : Hs2 p = none := by
          cases z : Hs2 p with
          | none => rfl
          | some o => rw [u.f p o z hn] at hH; cases hH
        refine ⟨p, xs, n, m, rfl, rfl, hH2, by rw [hr.len]; exact hm, ?_⟩
        exact q σ Hs2 _ u.s (r2.mut he rfl hw nT hn2 ⟨p, xs.set m w, rfl, nT, hn2, upd_same, by rw [List.length_set]; exact hl, Rps.set (rd.to u2.s) m (hr.to u.s)⟩)
      · cases h4
    · cases h4
/-- tape[1] = e, tape[2] = e -/
def sTap (i j : Nat) (f : DD) : DS := fun env τ => bnd (f env τ) fun x τ1 => match env[i]?, x with
  | some (some .tp), .int n => match j with
    | 1 => some (.nx env, { τ1 with pos := n })
    | 2 => some (.nx env, { τ1 with cell := n })
    | _ => none
  | _, _ => none
theorem Rel.tape {g : G} {Hs H : Hp} {σ : Sl} {env : Ev} {τ : Tp} (r : Rel g Hs H σ env τ) (a b : Int) : Rel g Hs (upd H g.aT (.lst [.ref g.aS, .int a, .int b])) σ env ⟨τ.sc, a, b⟩ where
  le := fun c o e => by rw [upd_ne (ne_of_none e r.tp.n)]; exact r.le c o e
  tp := ⟨upd_same, r.tp.n, r.tp.s, r.tp.l⟩
  ls := r.ls
  bs := fun c o e n => by rw [upd_ne n]; exact r.bs c o e n
  fr := r.fr
  sl := fun i v e => by
    obtain ⟨w, h1, h2⟩ := r.sl i v e
    refine ⟨w, h1, ?_⟩
    cases v with
    | sh d => exact h2
    | ow ds => obtain ⟨p, xs, e1, n1, n2, n3, n4⟩ := h2; exact ⟨p, xs, e1, n1, n2, by rw [upd_ne n1]; exact n3, n4⟩
    | dk ds => obtain ⟨p, xs, e1, n1, n2, n3, n4⟩ := h2; exact ⟨p, xs, e1, n1, n2, by rw [upd_ne n1]; exact n3, n4⟩
    | dt ds => obtain ⟨p, xs, e1, n1, n2, n3, n4⟩ := h2; exact ⟨p, xs, e1, n1, n2, by rw [upd_ne n1]; exact n3, n4⟩
    | tp => exact h2
  ow := r.ow
  ap := r.ap
  ln := r.ln
theorem js_tap {i j jj : Nat} {z : Int} {x : Str} {ev : Expr} {f : DD} {p1 p2 p3 : Pos} (he : JD X ev f) (hz : z = (j : Int) := by rfl)
    (hN : X.N[i]? = some x := by rfl) (hv : Vis X.env.scope x := by first | exact Or.inl rfl | exact Or.inr (Or.inl rfl) | exact Or.inr (Or.inr rfl)) (hd : (x == ("__debug__" : Str)) = false := by decide) (hcd : (x == ("__classdict__" : Str)) = false := by decide)
    (hs : swapsWithSole [.Subscript (.Name x p1) (.Constant (.int z) jj p3) p2] ev pos.line X.env = pure false := by rfl) (hw : swappedStores [.Subscript (.Name x p1) (.Constant (.int z) jj p3) p2] ev X.env = pure none := by rfl) (h1 : (assignEach [.Subscript (.Name x p1) (.Constant (.int z) jj p3) p2] X.env).map (·.2) = [assign (.Subscript (.Name x p1) (.Constant (.int z) jj p3) p2) X.env] := by rfl)
    (ha : ∀ v, assign (.Subscript (.Name x p1) (.Constant (.int z) jj p3) p2) X.env v = (do
      let ov ← holding [v] (eval (.Name x p1) X.env)
      let iv ← holding [v, ov] (eval (.Constant (.int z) jj p3) X.env)
      standAt p2
      holding [v, ov, iv] (setItem ov iv v)
      release [v, ov, iv] []) := by intro _; rfl) : JS X (.Assign [.Subscript (.Name x p1) (.Constant (.int z) jj p3) p2] ev pos) (sTap i j f) :=
  PSi (ps_asg he (pg_sub (pe_var hN hv hd hcd) pe_int set_list ha) hs hw h1) fun E σ H ⟨g, Hs, env, τ, o, τ', r, hf, q⟩ => by
    obtain ⟨d, τ1, h1, h2⟩ := bnd_eq hf
    refine ⟨g, Hs, env, τ, d, τ1, r, h1, fun w Hs1 H1 u1 rd => ?_⟩
    subst hz
    split at h2
    · rename_i n he
      obtain ⟨wl, hw, e1⟩ := r.sl i _ he
      have e1 : wl = .ref g.aT := e1
      subst e1
      cases rd
      have r1 := r.up u1
      refine ⟨_, hw, ?_⟩
      split at h2
      · cases h2
        exact ⟨g.aT, _, _, 1, rfl, rfl, u1.tp.h, rfl, q σ Hs1 _ u1.s (r1.tape n τ1.cell)⟩
      · cases h2
        exact ⟨g.aT, _, _, 2, rfl, rfl, u1.tp.h, rfl, q σ Hs1 _ u1.s (r1.tape τ1.pos n)⟩
      · cases h2
    · cases h2
/-! ### loops -/
def forL (b : DG) (body : DS) : List D → Ev → Tp → Option (Out × Tp)
  | [], env, τ => some (.nx env, τ)
  | x :: xs, env, τ => match b x env with
    | none => none
    | some env1 => bnd (body env1 τ) fun o τ1 => match o with
      | .nx env2 => forL b body xs env2 τ1
      | .ct env2 => forL b body xs env2 τ1
      | .bk env2 => some (.nx env2, τ1)
      | .rt v => some (.rt v, τ1)
def sFor (it : DI) (b : DG) (body : DS) : DS := fun env τ => bnd (it env τ) fun ds τ1 => forL b body ds env τ1
theorem js_for {tg iter : Expr} {sts : List Stmt} {is : List Nat} {it : DI} {b : DG} {body : DS} (hi : JI X tg iter it) (hg : JG X tg is b) (hb : JSs X sts body) (hp : PassesOwn (model X.prog X.w) X.A X.env X.xe := by exact PassesOwn.never) (hc : X.calm = true := by rfl) (hs : ∀ x, foldedSetIterable iter X.env x = pure x := by intro _; rfl) :
    JS X (.For tg iter sts [] pos) (sFor it b body) := PSi (ps_for hp hc hi hg hb hs) fun E σ H ⟨g, Hs, env, τ, o, τ', r, hf, q⟩ => by
  obtain ⟨ds, τ1, h1, h2⟩ := bnd_eq hf
  refine ⟨g, Hs, env, τ, ds, τ1, r, h1, fun J Hs1 H1 u1 hlen wk => ?_⟩
  obtain ⟨Gd, Y, w, wG, wY⟩ := wk
  refine for_it w (fun i σ' H' => ∃ Hs' env' τi, Same Hs1 Hs' ∧ Rel g Hs' H' σ' env' τi ∧ forL b body (ds.drop i) env' τi = some (o, τ'))
    ⟨Hs1, env, τ1, .refl _, r.up u1, by rw [List.drop_zero]; exact h2⟩ (fun i σ' H' _ ⟨Hs', env', τi, s, r', _⟩ => wG Hs' H' τi ⟨s, r'.le, r'.tp⟩) (fun i x σ' H2 H3 hi ⟨Hs2, env2, τi, s2, r2, hc⟩ hy => ?_) fun σ' H' ⟨Hs2, env2, τi, s2, r2, hc⟩ => ?_
  · have hd : ds[i]? = some (ds[i]'hi) := List.getElem?_eq_getElem hi
    generalize ds[i]'hi = d at hd
    obtain ⟨Hs3, u3, rx⟩ := wY Hs2 H2 τi i x H3 d ⟨s2, r2.le, r2.tp⟩ hy hd
    rw [List.drop_eq_getElem_cons hi, show ds[i] = d from Option.some.inj ((List.getElem?_eq_getElem hi).symm.trans hd)] at hc
    have hc' : (match b d env2 with
      | none => none
      | some env1 => bnd (body env1 τi) fun o τ1 => match o with
        | .nx env2 => forL b body (ds.drop (i + 1)) env2 τ1
        | .ct env2 => forL b body (ds.drop (i + 1)) env2 τ1
        | .bk env2 => some (.nx env2, τ1)
        | .rt v => some (.rt v, τ1)) = some (o, τ') := hc
    cases hb : b d env2 with
    | none => rw [hb] at hc'; cases hc'
    | some env1 =>
      rw [hb] at hc'
      obtain ⟨ob, τ4, h5, h6⟩ := bnd_eq hc'
      refine ⟨g, Hs3, env2, τi, d, env1, r2.up u3, rx, hb, fun σ2 r4 _ => ⟨g, Hs3, env1, τi, ob, τ4, r4, h5, ?_⟩⟩
      have s3 : Same Hs1 Hs3 := s2.trans u3.s
      cases ob with
      | nx env5 => exact fun σ5 Hs5 H5 s5 r5 => ⟨Hs5, env5, τ4, s3.trans s5, r5, h6⟩
      | ct env5 => exact fun σ5 Hs5 H5 s5 r5 => ⟨Hs5, env5, τ4, s3.trans s5, r5, h6⟩
      | bk env5 => cases h6; exact q.mono (u1.s.trans s3)
      | rt v => cases h6; exact q.mono (u1.s.trans s3)
  · rw [List.drop_length] at hc
    cases hc
    exact q σ' Hs2 H' (u1.s.trans s2) r2
def whl (c : DT) (body : DS) : Nat → Ev → Tp → Option (Out × Tp)
  | 0, _, _ => none
  | n + 1, env, τ => bnd (c env τ) fun k τ1 => if k = true then bnd (body env τ1) fun o τ2 => match o with
      | .nx env2 => whl c body n env2 τ2
      | .ct env2 => whl c body n env2 τ2
      | .bk env2 => some (.nx env2, τ2)
      | .rt v => some (.rt v, τ2)
    else some (.nx env, τ1)
def sWhl (n : Nat) (c : DT) (body : DS) : DS := fun env τ => whl c body n env τ
theorem js_while (n : Nat) {c : Expr} {sts : List Stmt} {ct : DT} {body : DS} (hc : JT X c ct) (hb : JSs X sts body) (hp : PassesOwn (model X.prog X.w) X.A X.env X.xe := by exact PassesOwn.never) : JS X (.While c sts [] pos) (sWhl n ct body) :=
  PSi (ps_while hp hc hb) fun E σ H ⟨g, Hs, env, τ, o, τ', r, hf, q⟩ => by
    refine ⟨fun m σ' H' => ∃ Hs' env' τi, Same Hs Hs' ∧ Rel g Hs' H' σ' env' τi ∧ whl ct body m env' τi = some (o, τ'), ⟨n, Hs, env, τ, .refl _, r, hf⟩, ?_⟩
    rintro m σ' H' ⟨Hs', env', τi, s, r', hm⟩
    cases m with
    | zero => cases hm
    | succ m =>
      obtain ⟨k, τ1, h1, h2⟩ := bnd_eq (show bnd (ct env' τi) (fun k τ1 => if k = true then bnd (body env' τ1) fun o τ2 => match o with
      | .nx env2 => whl ct body m env2 τ2
      | .ct env2 => whl ct body m env2 τ2
      | .bk env2 => some (.nx env2, τ2)
      | .rt v => some (.rt v, τ2)
    else some (.nx env', τ1)) = some (o, τ') from hm)
      refine ⟨g, Hs', env', τi, k, τ1, r', h1, fun Hs1 H1 u1 => ?_⟩
      cases k with
      | false => cases h2; exact iteF (q σ' Hs1 H1 (s.trans u1.s) (r'.up u1))
      | true =>
        obtain ⟨ob, τ2, h3, h4⟩ := bnd_eq (show bnd (body env' τ1) (fun o τ2 => match o with
      | .nx env2 => whl ct body m env2 τ2
      | .ct env2 => whl ct body m env2 τ2
      | .bk env2 => some (.nx env2, τ2)
      | .rt v => some (.rt v, τ2)) = some (o, τ') from h2)
        refine iteT ⟨fun σ2 H2 => ∃ Hs2 env2 τi2, Same Hs Hs2 ∧ Rel g Hs2 H2 σ2 env2 τi2 ∧ whl ct body m env2 τi2 = some (o, τ'), fun σ2 H2 h => ⟨m, Nat.lt_succ_self m, h⟩, g, Hs1, env', τ1, ob, τ2, r'.up u1, h3, ?_⟩
        have s1 := s.trans u1.s
        cases ob with
        | nx env5 => exact fun σ5 Hs5 H5 s5 r5 => ⟨Hs5, env5, τ2, s1.trans s5, r5, h4⟩
        | ct env5 => exact fun σ5 Hs5 H5 s5 r5 => ⟨Hs5, env5, τ2, s1.trans s5, r5, h4⟩
        | bk env5 => cases h4; exact q.mono s1
        | rt v => cases h4; exact q.mono s1
end
/-! ### defs and their calls -/
abbrev Cal := List Vl → Tp → Option (Vl × Tp)
/-- what a def promises: what F reckons -/
def spF (F : Cal) : Sp := fun vs H Q _ => ∃ g Hs τ as r τ', Same Hs H ∧ TpOk g Hs H τ ∧ Paired (RepV g.aT Hs H) vs as ∧ (∀ v ∈ as, v.own = false) ∧ F as τ = some (r, τ') ∧
  ∀ w Hs' H', Up g Hs H Hs' H' τ' → RepV g.aT Hs' H' w r → (r.own = true → ∀ p, w = .ref p → H p = none) → Q w H'
/-- the def of that name keeps F's promise -/
def Has (P : Program) (w : World) (K : PySem.W.Frag) (mg : Str → Option Value) (base : Heap) (k : Nat) (x : Str) (np : Nat) (F : Cal) : Prop :=
  ∃ (f : Addr) (fd : FuncData) (ps : List Str), mg x = some (.ref f) ∧ PySem.W.keepIn K (.ref f) = true ∧ Binds K fd ps [] ∧ ps.length = np ∧ FnOk P w K mg base CX0 k f fd ps (spF F)
def dDef (F : Cal) (k : DV) : DE := fun env τ => bnd (k env τ) fun as τ1 => F as τ1
section
variable {X : Cx} {x : Str} {p pos : Pos} {e : Expr} {es : List Expr} {k : Nat} {np : Nat} {F : Cal}
theorem jcall {kv : DV} (h : Has X.prog X.w X.K X.mg X.base k x np F) (hr : Room k X.A) (ha : JVs X (e :: es) kv) (hg : Gl X x := by rfl) (hdb : (x == ("__debug__" : Str)) = false := by decide) (he : starEach (e :: es) X.env = (false, eval e X.env) :: starEach es X.env := by rfl) (hpl : (backTo pos (starEach es X.env)).any (·.1) = false := by rfl) :
    JV X (.Call (.Name x p) (e :: es) [] pos) (dDef F kv) := by
  obtain ⟨f, fd, ps, hm, hk, hb, hn, G⟩ := h
  refine PEi (pe_call G hr hg hm hk hb .nil pass0 ha hdb he hpl) fun σ H Q ⟨g, Hs, env, τ, v, τ', r, hf, q⟩ => ?_
  obtain ⟨as, τ1, h1, h2⟩ := bnd_eq hf
  refine ⟨g, Hs, env, τ, as, τ1, r, h1, fun ws Hs1 H1 u1 rv no => ?_⟩
  show spF F (ws ++ []) _ _ _
  rw [List.append_nil]
  exact ⟨g, Hs1, τ1, as, v, τ', u1.le, u1.tp, rv, no, h2, fun w Hs2 H2 u2 rw' fr => q w Hs2 H2 (u1.trans u2) rw' fun ho p ep => u1.old (fr ho p ep)⟩
/-- arguments that are lent: the answer is no object -/
def flat : Vl → Bool
  | .sh .none => true | .sh (.bool _) => true | .sh (.int _) => true | .sh (.str _) => true
  | _ => false
def dDefB (F : Cal) (k : DA) : DE := fun env τ => bnd (k env τ) fun as τ1 => bnd (F (as.map .sh) τ1) fun v τ2 => if flat v = true then some (v, τ2) else none
theorem lent {g : G} {H : Hp} {τ : Tp} : ∀ {ws : List V} {ds : List D} {Hs : Hp}, Same Hs H → TpOk g Hs H τ → Rdbs g.aT Hs H ws ds → ∃ Hs', Same Hs Hs' ∧ Same Hs' H ∧ TpOk g Hs' H τ ∧ Rps Hs' ws ds
  | _, _, Hs, le, tp, .nil => ⟨Hs, .refl _, le, tp, .nil⟩
  | _, _, Hs, le, tp, @Paired.cons _ _ _ w d ws ds a b => by
    rcases a with a | ⟨es, p, xs, e1, e2, nT, hp, hl, hr⟩
    · obtain ⟨Hs', s, le', tp', r'⟩ := lent le tp b
      exact ⟨Hs', s, le', tp', .cons (a.to s) r'⟩
    · subst e1; subst e2
      by_cases hn : Hs p = none
      · have sm : Same Hs (upd Hs p (.lst xs)) := same_upd hn
        have le1 : Same (upd Hs p (.lst xs)) H := fun c o e => by
          by_cases hc : c = p
          · subst hc; rw [upd_same] at e; cases e; exact hp
          · rw [upd_ne hc] at e; exact le c o e
        have b1 : Rdbs g.aT (upd Hs p (.lst xs)) H ws ds := Paired.mapP b fun v d z => by
          rcases z with z | ⟨es', p', xs', e1, e2, n', hp', hl', hr'⟩
          · exact .inl (z.to sm)
          · exact .inr ⟨es', p', xs', e1, e2, n', hp', hl', hr'.to sm⟩
        have nS : g.aS ≠ p := fun e => by subst e; rw [tp.s] at hn; cases hn
        obtain ⟨Hs', s, le', tp', r'⟩ := lent le1 ⟨tp.h, by rw [upd_ne nT.symm]; exact tp.n, by rw [upd_ne nS]; exact tp.s, tp.l⟩ b1
        exact ⟨Hs', sm.trans s, le', tp', .cons ((Rp.lst upd_same hl (hr.to sm)).to s) r'⟩
      · obtain ⟨o, ho⟩ := Option.ne_none_iff_exists'.mp hn
        have := le p o ho
        rw [hp] at this; cases this
        obtain ⟨Hs', s, le', tp', r'⟩ := lent le tp b
        exact ⟨Hs', s, le', tp', .cons ((Rp.lst ho hl hr).to s) r'⟩
theorem rps_v {aT : Addr} {Hs H : Hp} : ∀ {ws : List V} {ds : List D}, Rps Hs ws ds → Paired (RepV aT Hs H) ws (ds.map .sh)
  | [], [], _ => .nil
  | _ :: _, _ :: _, h => by
    cases h with
    | cons a b => exact .cons a (rps_v b)
  | [], _ :: _, h => by cases h
  | _ :: _, [], h => by cases h
theorem jcallB {kv : DA} (h : Has X.prog X.w X.K X.mg X.base k x np F) (hr : Room k X.A) (ha : JRs X (e :: es) kv) (hg : Gl X x := by rfl) (hdb : (x == ("__debug__" : Str)) = false := by decide) (he : starEach (e :: es) X.env = (false, eval e X.env) :: starEach es X.env := by rfl) (hpl : (backTo pos (starEach es X.env)).any (·.1) = false := by rfl) :
    JV X (.Call (.Name x p) (e :: es) [] pos) (dDefB F kv) := by
  obtain ⟨f, fd, ps, hm, hk, hb, hn, G⟩ := h
  refine PEi (pe_call G hr hg hm hk hb .nil pass0 ha hdb he hpl) fun σ H Q ⟨g, Hs, env, τ, v, τ', r, hf, q⟩ => ?_
  obtain ⟨as, τ1, h1, h2⟩ := bnd_eq hf
  obtain ⟨v2, τ2, h3, h4⟩ := bnd_eq h2
  split at h4
  · rename_i hfl
    cases h4
    refine ⟨g, Hs, env, τ, as, τ1, r, h1, fun ws Hs1 H1 u1 rv => ?_⟩
    show spF F (ws ++ []) _ _ _
    rw [List.append_nil]
    obtain ⟨Hs2, s2, le2, tp2, rs⟩ := lent u1.le u1.tp rv
    refine ⟨g, Hs2, τ1, as.map .sh, v, τ', le2, tp2, rps_v rs, fun v hv => ?_, h3, fun w Hs3 H3 u3 rw' fr => ?_⟩
    · obtain ⟨d, _, rfl⟩ := List.mem_map.mp hv
      rfl
    · have u4 : Up g Hs1 H1 Hs1 H3 τ' := ⟨.refl _, u3.h, fun b o e n => (by rw [n] at e; cases e), fun b o e => u3.le _ _ (u3.s _ _ (s2 _ _ e)), u3.tp.h, u1.tp.n, u1.tp.s.trans (by
        have e1 := s2 _ _ u1.tp.s
        have e2 := tp2.s
        rw [e1] at e2
        have e3 := u3.s _ _ (e1)
        have e4 := u3.tp.s
        rw [e3] at e4
        exact e4), u3.tp.l⟩
      refine q w Hs1 H3 (u1.trans u4) ?_ fun ho => ?_
      · unfold flat at hfl
        split at hfl
        · cases rw'; exact .non
        · cases rw'; exact .bl _
        · cases rw'; exact .int _
        · cases rw'; exact .str _
        · cases hfl
      · unfold flat at hfl
        split at hfl <;> first | cases ho | cases hfl
  · cases h4
end
def startE (nn : Nat) (as : List Vl) : Ev := as.map some ++ List.replicate (nn - as.length) none
def runF (np nn : Nat) (b : DS) : Cal := fun as τ => if as.length = np then bnd (b (startE nn as) τ) fun o τ' => match o with
    | .rt v => some (v, τ')
    | .nx _ => some (.sh .none, τ')
    | _ => none
  else none
theorem start_rel {g0 : G} {Hs H : Hp} {τ : Tp} {N : List Str} {vs : List V} {as : List Vl} (le : Same Hs H) (tp : TpOk g0 Hs H τ) (rv : Paired (RepV g0.aT Hs H) vs as) (no : ∀ v ∈ as, v.own = false) : Rel ⟨H, Hs, g0.aT, g0.aS⟩ Hs H (L2.start N vs) (startE N.length as) τ := by
  have hl := paired_len rv
  have get : ∀ {vs : List V} {as : List Vl}, Paired (RepV g0.aT Hs H) vs as → ∀ (i : Nat) v, as[i]? = some v → ∃ w, vs[i]? = some w ∧ RepV g0.aT Hs H w v := by
    intro vs as h
    induction h with
    | nil => intro i v e; simp at e
    | cons a _ ih =>
      intro i v e
      cases i with
      | zero => simp at e; subst e; exact ⟨_, rfl, a⟩
      | succ i => obtain ⟨w, h1, h2⟩ := ih i v (by simpa using e); exact ⟨w, by simpa using h1, h2⟩
  have at_ : ∀ (i : Nat) v, (startE N.length as)[i]? = some (some v) → as[i]? = some v := fun i v e => by
    unfold startE at e
    by_cases hi : i < as.length
    · rw [List.getElem?_append_left (by simpa using hi), List.getElem?_map] at e
      cases q : as[i]? with
      | none => rw [q] at e; cases e
      | some a => rw [q] at e; cases e; rfl
    · rw [List.getElem?_append_right (by simpa using hi), List.getElem?_replicate] at e
      split at e <;> cases e
  have nown : ∀ (i : Nat) v, (startE N.length as)[i]? = some (some v) → v.own = false := fun i v e => no v (List.mem_of_getElem? (at_ i v e))
  refine ⟨le, ⟨tp.h, tp.n, tp.s, tp.l⟩, .refl _, fun b o e _ => e, fun b o e n => ?_, fun i v e => ?_, fun i v p e ho => ?_, fun i j v v' p e e' ho => ?_, ?_⟩
  · have n : Hs b = none := n
    rw [n] at e; cases e
  · obtain ⟨w, h1, h2⟩ := get rv i v (at_ i v e)
    refine ⟨w, ?_, h2⟩
    have hi : i < vs.length := (List.getElem?_eq_some_iff.mp h1).1
    unfold L2.start
    rw [List.getElem?_append_left (by simpa using hi), List.getElem?_map, h1]
    rfl
  · rw [nown i v e] at ho; cases ho
  · rw [nown i v e] at ho; cases ho
  · unfold startE L2.start
    rw [List.length_append, List.length_append, List.length_map, List.length_map, List.length_replicate, List.length_replicate, hl]
/-- THE RULE for a def -/
theorem has_def {P : Program} {w : World} {K : PySem.W.Frag} {mg : Str → Option Value} {base : Heap} {x : Str} {st : Stmt} {f : Addr} {fd : FuncData} {N ps : List Str} {k : Nat} {b : DS} (hm : mg x = some (.ref f)) (Fn : Fun K x x st f fd) (S : FnScope N ps (defScope st)) (hb : Binds K fd ps [])
    (hbody : ∀ (cdv : Value) (A : Around) (outer : List PySem.Env) (s : Shared) (H : Hp) (E : XK), Room k (A.deeper (envOfC x (defScope st) s.heap.objs.size f cdv)) → JSs (cxOf CX0 P w K mg base N x (defScope st) f cdv A outer s H E).nox (defBody st) b) : Has P w K mg base (k + 1) x ps.length (runF ps.length N.length b) := by
  refine ⟨f, fd, ps, hm, Fn.kp, hb, rfl, Fn.ok S (fun vs H Q E h => ?_) fun cdv A outer s H vs Q E hr h => ?_⟩
  · obtain ⟨g, Hs, τ, as, r, τ', _, _, rv, _, hf, _⟩ := h
    unfold runF at hf
    split at hf
    · rw [paired_len rv]; assumption
    · cases hf
  · obtain ⟨g, Hs, τ, as, r, τ', le, tp, rv, no, hf, q⟩ := h
    refine ⟨tS b, hbody cdv A outer s H E hr, ?_⟩
    unfold runF at hf
    split at hf
    · obtain ⟨o, τ1, h1, h2⟩ := bnd_eq hf
      refine ⟨⟨H, Hs, g.aT, g.aS⟩, Hs, startE N.length as, τ, o, τ1, start_rel le tp rv no, h1, ?_⟩
      have up : ∀ {Hs' H' : Hp} {σ' : Sl} {env' : Ev}, Rel ⟨H, Hs, g.aT, g.aS⟩ Hs' H' σ' env' τ1 → Up g Hs H Hs' H' τ1 := fun r' => ⟨r'.ls, r'.bs, r'.fr, r'.le, ⟨r'.tp.h, r'.tp.n, r'.tp.s, r'.tp.l⟩⟩
      cases o with
      | rt v => cases h2; exact fun w Hs' H' _ r' rw' fr => q w Hs' H' (up r') rw' fr
      | nx env' => cases h2; exact fun σ' Hs' H' _ r' => q _ Hs' H' (up r') .non fun z => by cases z
      | bk _ => cases h2
      | ct _ => cases h2
    · cases hf
theorem has_none {P : Program} {w : World} {K : PySem.W.Frag} {mg : Str → Option Value} {base : Heap} {x : Str} {st : Stmt} {f : Addr} {fd : FuncData} {ps : List Str} {k : Nat} {F : Cal} (hm : mg x = some (.ref f)) (Fn : Fun K x x st f fd) (hb : Binds K fd ps []) (hF : ∀ as τ, F as τ = none) : Has P w K mg base k x ps.length F :=
  ⟨f, fd, ps, hm, Fn.kp, hb, rfl, ⟨(fun vs H Q E h => by
    obtain ⟨g, Hs, τ, as, r, τ', _, _, _, _, hf, _⟩ := h
    rw [hF] at hf; cases hf), (fun A outer s H args us vs Q E _ _ _ _ h => by
    obtain ⟨g, Hs, τ, as, r, τ', _, _, _, _, hf, _⟩ := h
    rw [hF] at hf; cases hf)⟩⟩
structure Df where
  np : Nat
  nn : Nat
  body : (Nat → Cal) → DS
def callK (tb : Nat → Option Df) : Nat → Nat → Cal
  | 0 => fun _ _ _ => none
  | k + 1 => fun x => match tb x with
    | some d => runF d.np d.nn (d.body (callK tb k))
    | none => fun _ _ => none
theorem callK_succ {tb : Nat → Option Df} {k x : Nat} {d : Df} (h : tb x = some d) : callK tb (k + 1) x = runF d.np d.nn (d.body (callK tb k)) := by
  show (match tb x with
    | some d => runF d.np d.nn (d.body (callK tb k))
    | none => fun _ _ => none) = _
  rw [h]
end Pv
namespace Pv
open PySem L2 PySem.Spec PyProof.Rows
def keyD : D → Option Key
  | .int i => some (.inl i)
  | .str x => some (.inr x)
  | _ => none
def keysD : List D → Option (List Key)
  | [] => some []
  | d :: ds => match keyD d, keysD ds with
    | some k, some ks => some (k :: ks)
    | _, _ => none
def keyT : D → Option (List Key)
  | .tuple ds => keysD ds
  | _ => none
def dKey : Key → D
  | .inl i => .int i
  | .inr x => .str x
theorem keyD_v {H : Hp} {w : V} {d : D} {k : Key} (e : keyD d = some k) (r : Rp H w d) : w = kV k := by
  unfold keyD at e
  split at e
  · cases e; cases r; rfl
  · cases e; cases r; rfl
  · cases e
theorem keyD_dKey {d : D} {k : Key} (e : keyD d = some k) : d = dKey k := by
  unfold keyD at e
  split at e
  · cases e; rfl
  · cases e; rfl
  · cases e
theorem keysD_v {H : Hp} : ∀ {ds : List D} {ws : List V} {ks : List Key}, keysD ds = some ks → Rps H ws ds → ws = ks.map kV
  | [], _, _, e, r => by cases e; cases r; rfl
  | d :: ds, _, ks, e, r => by
    unfold keysD at e
    split at e
    · rename_i k ks' h1 h2
      cases e
      cases r with
      | cons a b => rw [keyD_v h1 a, keysD_v h2 b]; rfl
    · cases e
theorem keyT_v {H : Hp} {w : V} {d : D} {k : List Key} (e : keyT d = some k) (r : Rp H w d) : ∃ b, w = .ref b ∧ H b = some (.tup (k.map kV)) := by
  unfold keyT at e
  split at e
  · cases r with
    | tup h1 h2 h3 => exact ⟨_, rfl, by rw [h1, keysD_v e h3]⟩
  · cases e
section
variable {κ : Type} [DecidableEq κ]
def valK (kvs : List (κ × D)) (k : κ) : Option D := (kvs.find? fun kv => decide (kv.1 = k)).map (·.2)
def hasK (kvs : List (κ × D)) (k : κ) : Bool := kvs.any fun kv => decide (kv.1 = k)
def putD (kvs : List (κ × D)) (k : κ) (d : D) : List (κ × D) := if hasK kvs k = true then kvs.map (fun kv => if kv.1 = k then (kv.1, d) else kv) else kvs ++ [(k, d)]
theorem Kps.val {H : Hp} {k : κ} : ∀ {a : List (κ × V)} {b : List (κ × D)}, Kps H a b → (valV a k = none ∧ valK b k = none) ∨ ∃ v d, valV a k = some v ∧ valK b k = some d ∧ Rp H v d
  | _, _, .nil => .inl ⟨rfl, rfl⟩
  | _, _, @Paired.cons _ _ _ p q a b h t => by
    by_cases e : p.1 = k
    · refine .inr ⟨p.2, q.2, valV_pos e, ?_, h.2⟩
      have e2 : q.1 = k := h.1.symm.trans e
      simp [valK, List.find?_cons, e2]
    · have e2 : ¬ q.1 = k := fun z => e (h.1.trans z)
      have e3 : valK (q :: b) k = valK b k := by simp [valK, List.find?_cons, e2]
      rw [valV_neg e, e3]
      exact Kps.val t
theorem Kps.any {H : Hp} {k : κ} : ∀ {a : List (κ × V)} {b : List (κ × D)}, Kps H a b → (a.any fun kv => decide (kv.1 = k)) = hasK b k
  | _, _, .nil => rfl
  | _, _, @Paired.cons _ _ _ p q a b h t => by
    have := Kps.any (k := k) t
    unfold hasK at this ⊢
    rw [List.any_cons, List.any_cons, this, h.1]
theorem Kps.repl {H : Hp} {k : κ} {v : V} {d : D} (r : Rp H v d) : ∀ {a : List (κ × V)} {b : List (κ × D)}, Kps H a b → Kps H (a.map fun kv => if kv.1 = k then (kv.1, v) else kv) (b.map fun kv => if kv.1 = k then (kv.1, d) else kv)
  | _, _, .nil => .nil
  | _, _, @Paired.cons _ _ _ p q a b h t => by
    refine .cons ?_ (Kps.repl r t)
    show (if p.1 = k then (p.1, v) else p).1 = (if q.1 = k then (q.1, d) else q).1 ∧ Rp H (if p.1 = k then (p.1, v) else p).2 (if q.1 = k then (q.1, d) else q).2
    have h1 : p.1 = q.1 := h.1
    by_cases e : p.1 = k
    · rw [if_pos e, if_pos (h1.symm.trans e)]; exact ⟨h1, r⟩
    · rw [if_neg e, if_neg (fun z => e (h1.trans z))]; exact h
theorem Kps.app {H : Hp} : ∀ {a a' : List (κ × V)} {b b' : List (κ × D)}, Kps H a b → Kps H a' b' → Kps H (a ++ a') (b ++ b')
  | _, _, _, _, .nil, h => h
  | _, _, _, _, .cons h t, k => .cons h (Kps.app t k)
theorem Kps.put {H : Hp} {a : List (κ × V)} {b : List (κ × D)} {v : V} {d : D} (h : Kps H a b) (k : κ) (r : Rp H v d) : Kps H (putK a k v) (putD b k d) := by
  unfold putK putD
  rw [h.any]
  split
  · exact h.repl r
  · exact h.app (.cons ⟨rfl, r⟩ .nil)
theorem Kps.len {H : Hp} {a : List (κ × V)} {b : List (κ × D)} (h : Kps H a b) : a.length = b.length := paired_len h
end
/-! ### a dict that is read -/
def tM (f : DE) : TE := fun σ H Q => ∃ g Hs env τ v τ', Rel g Hs H σ env τ ∧ f env τ = some (v, τ') ∧ ∀ w Hs' H', Up g Hs H Hs' H' τ' → RepV g.aT Hs' H' w v → Q w H'
abbrev JM (X : Cx) (e : Expr) (f : DE) : Prop := PE X e (tM f)
def dMb (i : Nat) : DE := fun env τ => match env[i]? with
  | some (some v) => some (v, τ)
  | _ => none
section
variable {X : Cx} {e : Expr} {pos : Pos}
theorem jm_v {f : DE} (h : JV X e f) : JM X e f := PEi h fun σ H Q ⟨g, Hs, env, τ, v, τ', r, hf, q⟩ => ⟨g, Hs, env, τ, v, τ', r, hf, fun w Hs' H' u rv _ => q w Hs' H' u rv⟩
theorem jmb (i : Nat) {x : Str} (hN : X.N[i]? = some x := by rfl) (hv : Vis X.env.scope x := by first | exact Or.inl rfl | exact Or.inr (Or.inl rfl) | exact Or.inr (Or.inr rfl)) (hd : (x == ("__debug__" : Str)) = false := by decide) (hcd : (x == ("__classdict__" : Str)) = false := by decide) : JM X (.Name x pos) (dMb i) :=
  PEi (pe_var (i := i) hN hv hd hcd) fun σ H Q ⟨g, Hs, env, τ, d, τ', r, hf, q⟩ => by
    unfold dMb at hf
    split at hf
    · rename_i v he
      cases hf
      obtain ⟨w, h1, h2⟩ := r.sl i _ he
      exact ⟨w, h1, q w Hs H (.refl r.le r.tp) h2⟩
    · cases hf
end
/-- what the dict holds at the key -/
def getM (v : Vl) (d : D) : Option (Option D) := match v with
  | .dk kvs => (keyD d).map fun k => valK kvs k
  | .dt kvs => (keyT d).map fun k => valK kvs k
  | _ => none
theorem get_m {aT : Addr} {Hs H : Hp} {w y : V} {v : Vl} {d : D} {o : Option D} (le : Same Hs H) (rv : RepV aT Hs H w v) (rd : Rp Hs y d) (e : getM v d = some o) : ∃ a r, w = .ref a ∧ DGet H a y r ∧ ((r = none ∧ o = none) ∨ ∃ z x, r = some z ∧ o = some x ∧ Rp Hs z x) := by
  unfold getM at e
  split at e
  · rename_i kvs
    obtain ⟨p, kv, rfl, _, _, hp, hr⟩ := rv
    cases ek : keyD d with
    | none => rw [ek] at e; cases e
    | some k =>
      rw [ek] at e
      cases e
      rw [keyD_v ek rd]
      refine ⟨p, _, rfl, .k hp, ?_⟩
      rcases hr.val (k := k) with ⟨h1, h2⟩ | ⟨z, x, h1, h2, h3⟩
      · exact .inl ⟨h1, h2⟩
      · exact .inr ⟨z, x, h1, h2, h3⟩
  · rename_i kvs
    obtain ⟨p, kv, rfl, _, _, hp, hr⟩ := rv
    cases ek : keyT d with
    | none => rw [ek] at e; cases e
    | some k =>
      rw [ek] at e
      cases e
      obtain ⟨b, rfl, hb⟩ := keyT_v ek rd
      refine ⟨p, _, rfl, .t hp (le _ _ hb), ?_⟩
      rcases hr.val (k := k) with ⟨h1, h2⟩ | ⟨z, x, h1, h2, h3⟩
      · exact .inl ⟨h1, h2⟩
      · exact .inr ⟨z, x, h1, h2, h3⟩
  · cases e
def dGet (m : DE) (k : DD) : DD := fun env τ => bnd (m env τ) fun v τ1 => bnd (k env τ1) fun d τ2 => match getM v d with
  | some (some x) => some (x, τ2)
  | _ => none
def dHas (neg : Bool) (k : DD) (m : DE) : DD := fun env τ => bnd (k env τ) fun d τ1 => bnd (m env τ1) fun v τ2 => match getM v d with
  | some o => some (.bool (o.isSome != neg), τ2)
  | none => none
section
variable {X : Cx} {o i : Expr} {pos : Pos} {m : DE} {k : DD}
theorem jdget (hu : X.A.units + 64 < cLine) (ho : JM X o m) (hi : JD X i k) (hs : NoSl i := by intro _ _; rfl) : JD X (.Subscript o i pos) (dGet m k) :=
  PEi (pe_dget (by omega) ho hi hs) fun σ H Q ⟨g, Hs, env, τ, d, τ', r, hf, q⟩ => by
    obtain ⟨v, τ1, h1, h2⟩ := bnd_eq hf
    obtain ⟨y, τ2, h3, h4⟩ := bnd_eq h2
    split at h4
    · rename_i x hg
      cases h4
      refine ⟨g, Hs, env, τ, v, τ1, r, h1, fun w Hs1 H1 u1 rv => ⟨g, Hs1, env, τ1, y, _, r.up u1, h3, fun w2 Hs2 H2 u2 ry => ?_⟩⟩
      obtain ⟨a, z, rfl, dg, hz⟩ := get_m u2.le (RepV.up u2 rv) ry hg
      rcases hz with ⟨_, hz⟩ | ⟨z', x', rfl, hx, rz⟩
      · cases hz
      · cases hx
        exact ⟨a, z', rfl, dg, q z' Hs2 H2 (u1.trans u2) rz⟩
    · cases h4
theorem din_run : ∀ σ H Q, tD (dHas false k m) σ H Q → tDIn (tD k) (tM m) σ H Q := fun σ H Q ⟨g, Hs, env, τ, d, τ', r, hf, q⟩ => by
  obtain ⟨y, τ1, h1, h2⟩ := bnd_eq hf
  obtain ⟨v, τ2, h3, h4⟩ := bnd_eq h2
  split at h4
  · rename_i x hg
    cases h4
    refine ⟨g, Hs, env, τ, y, τ1, r, h1, fun w Hs1 H1 u1 ry => ⟨g, Hs1, env, τ1, v, _, r.up u1, h3, fun w2 Hs2 H2 u2 rv => ?_⟩⟩
    obtain ⟨a, z, rfl, dg, hz⟩ := get_m u2.le rv (ry.to u2.s) hg
    refine ⟨a, z, rfl, dg, ?_⟩
    rcases hz with ⟨rfl, rfl⟩ | ⟨z', x', rfl, rfl, rz⟩
    · exact q _ Hs2 H2 (u1.trans u2) (.bl false)
    · exact q _ Hs2 H2 (u1.trans u2) (.bl true)
  · cases h4
theorem dni_run : ∀ σ H Q, tD (dHas true k m) σ H Q → tDNotIn (tD k) (tM m) σ H Q := fun σ H Q ⟨g, Hs, env, τ, d, τ', r, hf, q⟩ => by
  obtain ⟨y, τ1, h1, h2⟩ := bnd_eq hf
  obtain ⟨v, τ2, h3, h4⟩ := bnd_eq h2
  split at h4
  · rename_i x hg
    cases h4
    refine ⟨g, Hs, env, τ, y, τ1, r, h1, fun w Hs1 H1 u1 ry => ⟨g, Hs1, env, τ1, v, _, r.up u1, h3, fun w2 Hs2 H2 u2 rv => ?_⟩⟩
    obtain ⟨a, z, rfl, dg, hz⟩ := get_m u2.le rv (ry.to u2.s) hg
    refine ⟨a, z, rfl, dg, ?_⟩
    rcases hz with ⟨rfl, rfl⟩ | ⟨z', x', rfl, rfl, rz⟩
    · exact q _ Hs2 H2 (u1.trans u2) (.bl true)
    · exact q _ Hs2 H2 (u1.trans u2) (.bl false)
  · cases h4
theorem jdin (hu : X.A.units + 64 < cLine) (hi : JD X i k) (ho : JM X o m) (hm : behindInMarks .In o = false := by rfl) : JD X (.Compare i [.In] [o] pos) (dHas false k m) := PEi (pe_cmp (pc_din (by omega) hi ho) hm) din_run
theorem jdni (hu : X.A.units + 64 < cLine) (hi : JD X i k) (ho : JM X o m) (hm : behindInMarks .NotIn o = false := by rfl) : JD X (.Compare i [.NotIn] [o] pos) (dHas true k m) := PEi (pe_cmp (pc_dnotin (by omega) hi ho) hm) dni_run
/-- as tests -/
theorem tdB {op : CmpOp} {t : TE} {f : DD} (h : PC X op i o t) (hm : behindInMarks op o = false) (hr : ∀ σ H Q, tD f σ H Q → t σ H Q) : JT X (.Compare i [op] [o] pos) (tstD f) :=
  PTi (pt_cmp h hm) fun σ H Q ⟨g, Hs, env, τ, b, τ', r0, hf, q⟩ => by
    obtain ⟨x, τ1, h1, h2⟩ := bnd_eq hf
    refine hr σ H _ ⟨g, Hs, env, τ, x, τ1, r0, h1, fun w Hs1 H1 u1 r1 => ?_⟩
    split at h2
    · cases h2
      cases r1
      exact ⟨_, rfl, q Hs1 H1 u1⟩
    · cases h2
theorem tdin (hu : X.A.units + 64 < cLine) (hi : JD X i k) (ho : JM X o m) (hm : behindInMarks .In o = false := by rfl) : JT X (.Compare i [.In] [o] pos) (tstD (dHas false k m)) := tdB (pc_din (by omega) hi ho) hm din_run
theorem tdni (hu : X.A.units + 64 < cLine) (hi : JD X i k) (ho : JM X o m) (hm : behindInMarks .NotIn o = false := by rfl) : JT X (.Compare i [.NotIn] [o] pos) (tstD (dHas true k m)) := tdB (pc_dnotin (by omega) hi ho) hm dni_run
end
/-! ### d[k] = e, d[k] += e -/
def putM (v : Vl) (d x : D) : Option Vl := match v with
  | .dk kvs => match keyD d with
    | some k => if kvs.length < 16777216 then some (.dk (putD kvs k x)) else none
    | none => none
  | .dt kvs => match keyT d with
    | some k => if kvs.length < 16777216 then some (.dt (putD kvs k x)) else none
    | none => none
  | _ => none
theorem put_m {g : G} {Hs H : Hp} {σ : Sl} {env : Ev} {τ : Tp} {i : Nat} {v v' : Vl} {d x : D} {w y z : V} (r : Rel g Hs H σ env τ) (he : env[i]? = some (some v)) (hw : σ[i]? = some (some w)) (rd : Rp Hs y d) (rx : Rp Hs z x) (e : putM v d x = some v') :
    ∃ a H', w = .ref a ∧ DPut H a y z H' ∧ Rel g Hs H' σ (env.set i (some v')) τ := by
  obtain ⟨w', hw', rv⟩ := r.sl i v he
  rw [hw] at hw'; cases hw'
  unfold putM at e
  split at e
  · rename_i kvs
    split at e
    · rename_i k ek
      split at e
      · rename_i hc
        cases e
        obtain ⟨p, kv, rfl, nT, hn, hp, hr⟩ := rv
        rw [keyD_v ek rd]
        exact ⟨p, _, rfl, .k hp (by rw [hr.len, line_eq]; exact hc), r.mut he rfl hw nT hn ⟨p, _, rfl, nT, hn, upd_same, hr.put k rx⟩⟩
      · cases e
    · cases e
  · rename_i kvs
    split at e
    · rename_i k ek
      split at e
      · rename_i hc
        cases e
        obtain ⟨p, kv, rfl, nT, hn, hp, hr⟩ := rv
        obtain ⟨b, rfl, hb⟩ := keyT_v ek rd
        exact ⟨p, _, rfl, .t hp (r.le _ _ hb) (by rw [hr.len, line_eq]; exact hc), r.mut he rfl hw nT hn ⟨p, _, rfl, nT, hn, upd_same, hr.put k rx⟩⟩
      · cases e
    · cases e
  · cases e
def sPutM (i : Nat) (f k : DD) : DS := fun env τ => bnd (f env τ) fun x τ1 => bnd (k env τ1) fun d τ2 => match env[i]? with
  | some (some v) => match putM v d x with
    | some v' => some (.nx (env.set i (some v')), τ2)
    | none => none
  | _ => none
def sAugM (i : Nat) (k f : DD) (opV : D → D → Option D) : DS := fun env τ => bnd (k env τ) fun d τ1 => match env[i]? with
  | some (some v) => match getM v d with
    | some (some x) => bnd (f env τ1) fun y τ2 => match opV x y with
      | some z => match putM v d z with
        | some v' => some (.nx (env.set i (some v')), τ2)
        | none => none
      | none => none
    | _ => none
  | _ => none
def addI (x y : D) : Option D := match x, y with
  | .int a, .int b => some (.int (a + b))
  | _, _ => none
section
variable {X : Cx} {x : Str} {i : Nat} {ek ev : Expr} {p1 p2 pos : Pos} {f k : DD}
theorem js_putM (hu : X.A.units + 64 < cLine) (hi : JD X ek k) (hv : JD X ev f) (hN : X.N[i]? = some x := by rfl) (hvis : Vis X.env.scope x := by first | exact Or.inl rfl | exact Or.inr (Or.inl rfl) | exact Or.inr (Or.inr rfl)) (hd : (x == ("__debug__" : Str)) = false := by decide) (hcd : (x == ("__classdict__" : Str)) = false := by decide)
    (hs : swapsWith ev (some (.Subscript (.Name x p1) ek p2)) pos.line X.env = pure false := by rfl) : JS X (.Assign [.Subscript (.Name x p1) ek p2] ev pos) (sPutM i f k) :=
  PSi (ps_dput (by omega) (pe_var hN hvis hd hcd) hi hv hs) fun E σ H ⟨g, Hs, env, τ, o, τ', r, hf, q⟩ => by
    obtain ⟨x, τ1, h1, h2⟩ := bnd_eq hf
    obtain ⟨d, τ2, h3, h4⟩ := bnd_eq h2
    split at h4
    · rename_i v he
      split at h4
      · rename_i v' hp
        cases h4
        refine ⟨g, Hs, env, τ, x, τ1, r, h1, fun w Hs1 H1 u1 rx => ?_⟩
        obtain ⟨wd, hw, _⟩ := r.sl i v he
        refine ⟨wd, hw, g, Hs1, env, τ1, d, _, r.up u1, h3, fun w2 Hs2 H2 u2 rd => ?_⟩
        obtain ⟨a, H', rfl, dp, r'⟩ := put_m ((r.up u1).up u2) he hw rd (rx.to u2.s) hp
        exact ⟨a, H', rfl, dp, q σ Hs2 H' (u1.trans u2).s r'⟩
      · cases h4
    · cases h4
theorem js_augM (hu : X.A.units + 64 < cLine) (hi : JD X ek k) (hv : JD X ev f) (hN : X.N[i]? = some x := by rfl) (hvis : Vis X.env.scope x := by first | exact Or.inl rfl | exact Or.inr (Or.inl rfl) | exact Or.inr (Or.inr rfl)) (hd : (x == ("__debug__" : Str)) = false := by decide) (hcd : (x == ("__classdict__" : Str)) = false := by decide)
    (ha : ∀ ov iv new, augStore ek ov iv new = (do holding [new, ov, iv] (setItem ov iv new); release [new, ov, iv] []; pure .next) := by intro _ _ _; rfl) : JS X (.AugAssign (.Subscript (.Name x p1) ek p2) .Add ev pos) (sAugM i k f addI) :=
  PSi (ps_daug (by omega) (pe_var hN hvis hd hcd) hi hv in_add ha) fun E σ H ⟨g, Hs, env, τ, o, τ', r, hf, q⟩ => by
    obtain ⟨d, τ1, h1, h2⟩ := bnd_eq hf
    split at h2
    · rename_i v he
      split at h2
      · rename_i x hg
        obtain ⟨y, τ2, h3, h4⟩ := bnd_eq h2
        split at h4
        · rename_i z hz
          split at h4
          · rename_i v' hp
            cases h4
            obtain ⟨wd, hw, rv⟩ := r.sl i v he
            refine ⟨wd, hw, g, Hs, env, τ, d, τ1, r, h1, fun w Hs1 H1 u1 rd => ?_⟩
            obtain ⟨a, z', rfl, dg, hz'⟩ := get_m u1.le (RepV.up u1 rv) rd hg
            rcases hz' with ⟨_, hz'⟩ | ⟨c, x', rfl, hx, rz⟩
            · cases hz'
            cases hx
            refine ⟨a, c, rfl, dg, g, Hs1, env, τ1, y, _, r.up u1, h3, fun w2 Hs2 H2 u2 ry => ?_⟩
            unfold addI at hz
            split at hz
            · cases hz
              cases rz
              cases ry
              refine ⟨_, _, rfl, rfl, ?_⟩
              obtain ⟨a', H', e', dp, r'⟩ := put_m ((r.up u1).up u2) he hw (rd.to u2.s) (.int _) hp
              cases e'
              exact ⟨H', dp, q σ Hs2 H' (u1.trans u2).s r'⟩
            · cases hz
          · cases h4
        · cases h4
      · cases h2
    · cases h2
end
end Pv
namespace Pv
open PySem L2 PySem.Spec PyProof.Rows
def dNewK : DE := fun _ τ => some (.dk [], τ)
def dNewT : DE := fun _ τ => some (.dt [], τ)
def dDisp1 (k f : DD) : DE := fun env τ => bnd (k env τ) fun d τ1 => bnd (f env τ1) fun x τ2 => match keyD d with
  | some c => some (.dk [(c, x)], τ2)
  | none => none
section
variable {X : Cx} {pos : Pos}
theorem jnewK : JV X (.Dict [] [] pos) dNewK := PEi pe_dnewK fun σ H Q ⟨g, Hs, env, τ, d, τ', r, hf, q⟩ => by
  cases hf
  intro p hp
  have u := Up.refl r.le r.tp
  exact q _ Hs _ (u.mk1 hp) ⟨p, [], rfl, u.neT hp, u.freeS hp, upd_same, .nil⟩ fun _ p' e => by cases e; exact hp
theorem jnewT : JV X (.Dict [] [] pos) dNewT := PEi pe_dnewT fun σ H Q ⟨g, Hs, env, τ, d, τ', r, hf, q⟩ => by
  cases hf
  intro p hp
  have u := Up.refl r.le r.tp
  exact q _ Hs _ (u.mk1 hp) ⟨p, [], rfl, u.neT hp, u.freeS hp, upd_same, .nil⟩ fun _ p' e => by cases e; exact hp
theorem jdisp1 {k v : Expr} {kd fd : DD} (hk : JD X k kd) (hv : JD X v fd) : JV X (.Dict [some k] [v] pos) (dDisp1 kd fd) :=
  PEi (pe_disp (pps_cons hk hv pps_nil) rfl rfl (by simp) (by simp)) fun σ H Q ⟨g, Hs, env, τ, o, τ', r, hf, q⟩ => by
    obtain ⟨d, τ1, h1, h2⟩ := bnd_eq hf
    obtain ⟨x, τ2, h3, h4⟩ := bnd_eq h2
    split at h4
    · rename_i c hc
      cases h4
      intro p hp
      have u0 := Up.refl r.le r.tp
      have nT := u0.neT hp
      have um := u0.mk1 (o := .dK []) hp
      refine ⟨g, Hs, env, τ, d, τ1, r.up um, h1, fun w Hs1 H1 u1 rd => ⟨g, Hs1, env, τ1, x, τ', (r.up um).up u1, h3, fun w2 Hs2 H2 u2 rx => ?_⟩⟩
      have ut := u1.trans u2
      have hp2 := ut.h _ _ upd_same nT
      have hn2 : Hs2 p = none := by
        cases z : Hs2 p with
        | none => rfl
        | some o =>
          have := ut.f p o z (u0.freeS hp)
          rw [upd_same] at this; cases this
      refine ⟨hp2, [(c, w2)], by rw [keyD_v hc rd]; rfl, by simp, ?_⟩
      refine q _ Hs2 _ ((um.trans ut).put hp hn2 nT) ⟨p, _, rfl, nT, hn2, upd_same, ?_⟩ fun _ p' e => by cases e; exact hp
      exact .cons ⟨rfl, rx⟩ .nil
    · cases h4
end
/-! ### dict comprehensions, the keys ints and texts -/
section
variable {J : It} {n : Nat} {Gd : Hp → Prop} {Y : Nat → Hp → V → Hp → Prop}
theorem dc_it (w : Walk J n Gd Y) {g : TG} {tt : TT} {tk tv : TE} {vs : List Nat} {σ : Sl} {H1 : Hp} {D : Addr} {Qd : Hp → Prop} (Pi : Nat → Hp → Prop) (h0 : Pi 0 (upd H1 D (.dK []))) (hG : ∀ i H, i ≤ n → Pi i H → Gd H)
    (hs : ∀ i x H H', i < n → Pi i H → Y i H x H' → g x (wipe σ vs) H' fun σ2 H2 => wipe σ2 vs = wipe σ vs ∧ tt σ2 H2 fun b H3 =>
      if b = true then tk σ2 H3 fun y H4 => tv σ2 H4 fun z H5 => ∃ kvs k, y = kV k ∧ H5 D = some (.dK kvs) ∧ kvs.length < sizeLine ∧ Pi (i + 1) (upd H5 D (.dK (putK kvs k z))) else Pi (i + 1) H3) (hd : ∀ H, Pi n H → Qd H) :
    ∃ W : Nat → Nat → Hp → Prop, (∃ m, W 0 m (upd H1 D (.dK []))) ∧ ∀ i m H, W i m H →
      (J.stop i H ∧ Qd H) ∨ (J.go i H ∧ ∃ Nx : Hp → Prop, (∀ H', Nx H' → ∃ m', m' < m ∧ W (i + 1) m' H') ∧ ∀ x H', J.yld i H x H' → g x (wipe σ vs) H' fun σ2 H2 => wipe σ2 vs = wipe σ vs ∧ tt σ2 H2 fun b H3 =>
        if b = true then tk σ2 H3 fun y H4 => tv σ2 H4 fun z H5 => ∃ kvs k, y = kV k ∧ H5 D = some (.dK kvs) ∧ kvs.length < sizeLine ∧ Nx (upd H5 D (.dK (putK kvs k z))) else Nx H3) := by
  refine ⟨fun i m H => m + i = n ∧ Pi i H, ⟨n, rfl, h0⟩, ?_⟩
  rintro i m H ⟨hm, hp⟩
  have hg := hG i H (by omega) hp
  rcases Nat.lt_or_ge i n with hlt | hge
  · exact .inr ⟨w.goes i H hlt hg, Pi (i + 1), fun H' p' => ⟨m - 1, by omega, by omega, p'⟩, fun x H' y => hs i x H H' hlt hp (w.yields i H x H' hlt hg y)⟩
  · have e : i = n := by omega
    subst e
    exact .inl ⟨w.stops H hg, hd H hp⟩
end
def dcL (b : DG) (c : DT) (k e : DD) : List D → List (Key × D) → Ev → Tp → Option (List (Key × D) × Tp)
  | [], acc, _, τ => some (acc, τ)
  | x :: xs, acc, env, τ => match b x env with
    | none => none
    | some env1 => bnd (c env1 τ) fun t τ1 => if t = true then bnd (k env1 τ1) fun d τ2 => bnd (e env1 τ2) fun y τ3 => match keyD d with
        | some kk => dcL b c k e xs (putD acc kk y) env τ3
        | none => none
      else dcL b c k e xs acc env τ1
def dDc (vs : List Nat) (it : DI) (b : DG) (c : DT) (k e : DD) : DE := fun env τ => bnd (it env τ) fun ds τ1 => bnd (dcL b c k e ds [] (wipeE env vs) τ1) fun kvs τ2 => some (.dk kvs, τ2)
theorem putD_le {κ : Type} [DecidableEq κ] (kvs : List (κ × D)) (k : κ) (d : D) : (putD kvs k d).length ≤ kvs.length + 1 := by
  unfold putD
  split
  · rw [List.length_map]; omega
  · rw [List.length_append]; show kvs.length + 1 ≤ _; omega
theorem dc_run {vs is : List Nat} {it : DI} {b : DG} {c : DT} {k e : DD} (his : ∀ i ∈ is, i ∈ vs) : ∀ σ H Q, tV (dDc vs it b c k e) σ H Q → tDc (tIE it) (tG is b) (tB' c) (tD k) (tD e) vs σ H Q := fun σ H Q ⟨g, Hs, env, τ, v, τ', r, hf, q⟩ => by
  obtain ⟨ds, τ1, h1, h2⟩ := bnd_eq hf
  obtain ⟨res, τ2, h3, h4⟩ := bnd_eq h2
  cases h4
  refine ⟨g, Hs, env, τ, ds, τ1, r, h1, fun J Hs1 H1 u1 hlen wk A hA => ?_⟩
  obtain ⟨Gd, Y, w, wG, wY⟩ := wk
  have nT := u1.neT hA
  have hA1 := u1.freeS hA
  have r1 := (r.up u1).wipe vs
  have uz : Up g Hs1 H1 Hs1 H1 τ1 := .refl u1.le u1.tp
  have stay : ∀ {Hs2 H2 Hs3 H3 : Hp} {τ3 : Tp} {o : HO}, Up g Hs2 H2 Hs3 H3 τ3 → H2 A = some o → Hs2 A = none → H3 A = some o ∧ Hs3 A = none := fun {Hs2 H2 Hs3 H3 τ3 o} u h hn => ⟨u.h _ _ h nT, by
    cases z : Hs3 A with
    | none => rfl
    | some o => rw [u.f A o z hn] at h; cases h⟩
  refine dc_it w (fun i H' => ∃ Hs' kv acc τi, Up g Hs1 H1 Hs' H' τi ∧ H' A = some (.dK kv) ∧ Hs' A = none ∧ Kps Hs' kv acc ∧ acc.length ≤ i ∧ dcL b c k e (ds.drop i) acc (wipeE env vs) τi = some (res, τ'))
    ⟨Hs1, [], [], τ1, uz.mk1 hA, upd_same, hA1, .nil, Nat.le_refl _, by rw [List.drop_zero]; exact h3⟩ (fun i H' _ ⟨Hs', kv, acc, τi, u2, _⟩ => wG Hs' H' τi u2) (fun i x H2 H3 hi ⟨Hs2, kv, acc, τi, u2, hacc, hA2, hr, hl, hc⟩ hy => ?_) fun H' ⟨Hs2, kv, acc, τi, u2, hacc, hA2, hr, hl, hc⟩ => ?_
  · have hd : ds[i]? = some (ds[i]'hi) := List.getElem?_eq_getElem hi
    generalize ds[i]'hi = d at hd
    obtain ⟨Hs3, u3, rx⟩ := wY Hs2 H2 τi i x H3 d u2 hy hd
    obtain ⟨hacc3, hA3⟩ := stay u3 hacc hA2
    rw [List.drop_eq_getElem_cons hi, show ds[i] = d from Option.some.inj ((List.getElem?_eq_getElem hi).symm.trans hd)] at hc
    have hc' : (match b d (wipeE env vs) with
      | none => none
      | some env1 => bnd (c env1 τi) fun t τ1 => if t = true then bnd (k env1 τ1) fun d τ2 => bnd (e env1 τ2) fun y τ3 => match keyD d with
          | some kk => dcL b c k e (ds.drop (i + 1)) (putD acc kk y) (wipeE env vs) τ3
          | none => none
        else dcL b c k e (ds.drop (i + 1)) acc (wipeE env vs) τ1) = some (res, τ') := hc
    cases hb : b d (wipeE env vs) with
    | none => rw [hb] at hc'; cases hc'
    | some env1 =>
      rw [hb] at hc'
      obtain ⟨t, τ4, h5, h6⟩ := bnd_eq hc'
      have r3 : Rel g Hs3 H3 (wipe σ vs) (wipeE env vs) τi := (r1.up u2).up u3
      refine ⟨g, Hs3, wipeE env vs, τi, d, env1, r3, rx, hb, fun σ2 r4 tt => ⟨?_, g, Hs3, env1, τi, t, τ4, r4, h5, fun Hs4 H4 u4 => ?_⟩⟩
      · rw [tt.wipe his, wipe_wipe]
      · obtain ⟨hacc4, hA4⟩ := stay u4 hacc3 hA3
        cases t with
        | false =>
          have h6 : dcL b c k e (ds.drop (i + 1)) acc (wipeE env vs) τ4 = some (res, τ') := h6
          exact iteF ⟨Hs4, kv, acc, τ4, (u2.trans u3).trans u4, hacc4, hA4, (hr.to u3.s).to u4.s, Nat.le_succ_of_le hl, h6⟩
        | true =>
          obtain ⟨dk, τ5, h7, h8⟩ := bnd_eq h6
          obtain ⟨y, τ6, h9, h10⟩ := bnd_eq h8
          split at h10
          · rename_i kk hkk
            refine iteT ⟨g, Hs4, env1, τ4, dk, τ5, r4.up u4, h7, fun wk Hs5 H5 u5 rk => ⟨g, Hs5, env1, τ5, y, τ6, (r4.up u4).up u5, h9, fun wy Hs6 H6 u6 ry => ?_⟩⟩
            obtain ⟨hacc5, hA5⟩ := stay u5 hacc4 hA4
            obtain ⟨hacc6, hA6⟩ := stay u6 hacc5 hA5
            have ut := (((u2.trans u3).trans u4).trans u5).trans u6
            have hk := hr.len
            have hle := putD_le acc kk y
            refine ⟨kv, kk, keyD_v hkk rk, hacc6, by omega, Hs6, _, putD acc kk y, τ6, ut.put hA hA6 nT, upd_same, hA6, ((((hr.to u3.s).to u4.s).to u5.s).to u6.s).put kk ry, by omega, h10⟩
          · cases h10
  · rw [List.drop_length] at hc
    cases hc
    exact q _ Hs2 H' (u1.trans u2) ⟨A, kv, rfl, nT, hA2, hacc, hr⟩ fun _ p ep => by cases ep; exact u1.old hA
section
variable {X : Cx} {pos : Pos} {kx vx tg iter : Expr} {ifs : List Expr} {scope : Scope} {own : List (Str × Nat)} {is : List Nat} {it : DI} {b : DG} {c : DT} {k e : DD}
theorem jdc (hN : X.N.Nodup) (hi : JC X tg iter it) (ok : BlkOk X.N X.env.scope scope own)
    (hg : ∀ (s : Shared) (H : Hp) (C : Addr) (cl : List (Str × Addr)) (fp : List Addr), JG (X.blk s H scope (compEnvC scope cl C X.env) fp) tg is b)
    (ht : ∀ (s : Shared) (H : Hp) (C : Addr) (cl : List (Str × Addr)) (fp : List Addr), JTs (X.blk s H scope (compEnvC scope cl C X.env) fp) ifs c)
    (hk : ∀ (s : Shared) (H : Hp) (C : Addr) (cl : List (Str × Addr)) (fp : List Addr), JD (X.blk s H scope (compEnvC scope cl C X.env) fp) kx k)
    (he : ∀ (s : Shared) (H : Hp) (C : Addr) (cl : List (Str × Addr)) (fp : List Addr), JD (X.blk s H scope (compEnvC scope cl C X.env) fp) vx e)
    (his : ∀ i ∈ is, i ∈ own.map (·.2) := by decide) (hc : X.calm = true := by rfl) (hs : ∀ x, foldedSetIterable iter X.env x = pure x := by intro _; rfl) : JV X (.DictComp kx vx [⟨tg, iter, ifs, 0⟩] scope pos) (dDc (own.map (·.2)) it b c k e) :=
  PEi (pe_dc hc hN hi ok hg ht hk he hs) (dc_run his)
end
/-! ### dict(list of pairs) -/
def pairK : D → Option (Key × D)
  | .tuple [k, v] => (keyD k).map fun c => (c, v)
  | _ => none
def pairsK : List D → Option (List (Key × D))
  | [] => some []
  | d :: ds => match pairK d, pairsK ds with
    | some p, some ps => some (p :: ps)
    | _, _ => none
def mergeD (kvs more : List (Key × D)) : List (Key × D) := more.foldl (fun acc kv => putD acc kv.1 kv.2) kvs
theorem Kps.merge {H : Hp} : ∀ {b : List (Key × V)} {b' : List (Key × D)} {a : List (Key × V)} {a' : List (Key × D)}, Kps H b b' → Kps H a a' → Kps H (mergeK a b) (mergeD a' b')
  | _, _, _, _, .nil, h => h
  | _, _, a, a', @Paired.cons _ _ _ p q ps qs h t, k => by
    have h1 : Kps H (putK a p.1 p.2) (putD a' q.1 q.2) := by
      have := k.put p.1 h.2
      rw [show q.1 = p.1 from h.1.symm]
      exact this
    exact Kps.merge (b := ps) (b' := qs) t h1
theorem pairs_v {K : PySem.W.Frag} {Hs H : Hp} (le : Same Hs H) : ∀ {ds : List D} {ws : List V} {prs : List (Key × D)}, pairsK ds = some prs → Rps Hs ws ds → ∃ (ps : List Addr) (kvs : List (Key × V)), ws = ps.map V.ref ∧ Paired (fun p kv => SqT K H p [kV kv.1, kv.2]) ps kvs ∧ Kps Hs kvs prs
  | [], _, _, e, r => by
    cases e; cases r
    exact ⟨[], [], rfl, .nil, .nil⟩
  | d :: ds, _, _, e, r => by
    unfold pairsK at e
    split at e
    · rename_i p ps h1 h2
      cases e
      cases r with
      | @cons v vs _ _ a b =>
        obtain ⟨as, kvs, rfl, hp, hk⟩ := pairs_v (K := K) le h2 b
        unfold pairK at h1
        split at h1
        · rename_i kd vd
          have h1 : (keyD kd).map (fun c => (c, vd)) = some p := h1
          cases hkd : keyD kd with
          | none => rw [hkd] at h1; cases h1
          | some c =>
            rw [hkd] at h1
            cases h1
            cases a with
            | tup e1 e2 e3 =>
              cases e3 with
              | cons x1 x2 =>
                cases x2 with
                | cons y1 y2 =>
                  cases y2
                  rw [keyD_v hkd x1] at e1
                  exact ⟨_ :: as, (c, _) :: kvs, rfl, .cons (.of (le _ _ e1)) hp, .cons ⟨rfl, y1⟩ hk⟩
        · cases h1
    · cases e
def dDictL (f : DD) : DE := fun env τ => bnd (f env τ) fun d τ1 => match d with
  | .list ds => match pairsK ds with
    | some prs => some (.dk (mergeD [] prs), τ1)
    | none => none
  | _ => none
theorem jdictL {X : Cx} {p pos : Pos} {e : Expr} {f : DD} (hm : X.mg "dict" = none) (he : JR X e f) (hcalm : X.calm = true := by rfl) (hg : Gl X "dict" := by rfl)
    (h1 : starEach [e] X.env = (false, eval e X.env) :: starEach [] X.env := by rfl) (hpl : (backTo pos (starEach [] X.env)).any (·.1) = false := by rfl) : JV X (.Call (.Name "dict" p) [e] [] pos) (dDictL f) :=
  PEi (pe_callTy (call_dictP hcalm) hg hm (by decide +kernel) (jr_cons he jr_nil h1) (by decide) (by decide) h1 hpl) fun σ H Q ⟨g, Hs, env, τ, o, τ', r, hf, q⟩ => by
    obtain ⟨d, τ1, h1, h2⟩ := bnd_eq hf
    refine ⟨g, Hs, env, τ, [d], τ1, r, by show bnd (f env τ) _ = _; rw [h1]; rfl, fun ws Hs1 H1 u1 r1 => ?_⟩
    obtain ⟨w, rfl, rw1⟩ := rdb1 r1
    split at h2
    · rename_i ds
      split at h2
      · rename_i prs hp
        cases h2
        obtain ⟨a, xs, rfl, ha, hl, hr⟩ := rw1.list u1.le
        obtain ⟨ps, kvs, rfl, hps, hk⟩ := pairs_v (K := X.K) u1.le hp hr
        refine ⟨a, ps, kvs, rfl, .of ha, hps, fun p hp' => ?_⟩
        exact q _ Hs1 _ (u1.mk1 hp') ⟨p, _, rfl, u1.neT hp', u1.freeS hp', upd_same, Kps.merge hk .nil⟩ fun _ p' e => by cases e; exact u1.old hp'
      · cases h2
    · cases h2
/-- len of a dict -/
def dLenM (m : DE) : DD := fun env τ => bnd (m env τ) fun v τ1 => match v with
  | .dk kvs => some (.int kvs.length, τ1)
  | _ => none
theorem jlenM {X : Cx} {p pos : Pos} {e : Expr} {m : DE} (hm : X.mg "len" = none) (he : JM X e m) (hg : Gl X "len" := by rfl)
    (h1 : starEach [e] X.env = (false, eval e X.env) :: starEach [] X.env := by rfl) (hpl : (backTo pos (starEach [] X.env)).any (·.1) = false := by rfl) : JD X (.Call (.Name "len" p) [e] [] pos) (dLenM m) :=
  PEi (pe_callB call_lenD hg hm (by decide +kernel) (pa_cons he pa_nil h1) (by decide) (by decide) h1 hpl) fun σ H Q ⟨g, Hs, env, τ, o, τ', r, hf, q⟩ => by
    obtain ⟨v, τ1, h1, h2⟩ := bnd_eq hf
    refine ⟨g, Hs, env, τ, v, τ1, r, h1, fun w Hs1 H1 u1 rv => ?_⟩
    split at h2
    · rename_i kvs
      cases h2
      obtain ⟨p, kv, rfl, _, _, hp, hr⟩ := rv
      exact ⟨p, kv, rfl, hp, q _ Hs1 H1 u1 (by rw [hr.len]; exact .int _)⟩
    · cases h2
end Pv
namespace Pv
open PySem L2 PySem.Spec PyProof.Rows
def SqB (K : PySem.W.Frag) (b : Bool) (H : Hp) (a : Addr) (xs : List V) : Prop := match b with
  | true => SqL K H a xs
  | false => SqT K H a xs
def ArB (b : Bool) (h : Heap) (a : Addr) (its : Array Value) : Prop := match b with
  | true => h.IsList a its
  | false => h.IsTuple a its
def ItB (b : Bool) (h : Heap) (i a : Addr) (n : Nat) : Prop := match b with
  | true => h.IsListIter i a n
  | false => h.IsTupleIter i a n
def obB (b : Bool) (a : Addr) : Obj := match b with
  | true => { cls := .type "list_iterator", data := .fields #[.ref a, .int 0 0] }
  | false => { cls := .type "tuple_iterator", data := .fields #[.ref a, .int 0 0] }
theorem ItB.at {b : Bool} {h h' : Heap} {i a : Addr} {n : Nat} (x : ItB b h i a n) (e : ∀ o, h.get? i = some o → h'.get? i = some o) : ItB b h' i a n := by
  cases b
  · exact (show h.IsTupleIter i a n from x).at e
  · exact (show h.IsListIter i a n from x).at e
theorem ItB.obj {b : Bool} {h : Heap} {i a : Addr} {n : Nat} (x : ItB b h i a n) : ∃ o, h.get? i = some o ∧ ∀ v, o.data ≠ .cell v := by
  cases b
  · obtain ⟨o, e, _, d⟩ := (show h.IsTupleIter i a n from x)
    exact ⟨o, e, fun v q => by rw [d] at q; cases q⟩
  · obtain ⟨o, e, _, d⟩ := (show h.IsListIter i a n from x)
    exact ⟨o, e, fun v q => by rw [d] at q; cases q⟩
theorem ItB.start {b : Bool} {h : Heap} {i a : Addr} (e : h.get? i = some (obB b a)) : ItB b h i a 0 := by
  cases b
  · exact ⟨_, e, rfl, rfl⟩
  · exact ⟨_, e, rfl, rfl⟩
theorem beginsB (b : Bool) (a : Addr) (its : Array Value) : Begins (.ref a) (obB b a) fun h => ArB b h a its := by
  cases b
  · exact begins_tuple a its
  · exact begins_list a its
theorem drawsB {prog : Program} {w : World} {A : Around} (hh : A.handled = none) (b : Bool) (it a : Addr) (hne : a ≠ it) (its : Array Value) :
    Draws prog w A it [it, a] its.size (fun i v => its[i]? = some v) (fun i h => ItB b h it a i ∧ ArB b h a its) := by
  cases b
  · exact Draws.tuple hh it a hne its
  · exact Draws.list hh it a hne its
section
variable {X : Cx} {pins : List (Addr × Obj)} {σ : Sl} {H : Hp} {s : Shared}
theorem SqB.arr (I : Inv X pins σ H s) {b : Bool} {a : Addr} {xs : List V} (q : SqB X.K b H a xs) : ∃ its : List Value, Vals xs its ∧ ArB b s.heap a its.toArray ∧ a < s.heap.objs.size := by
  cases b
  · obtain ⟨its, rv, p, _⟩ := I.tuple (show SqT X.K H a xs from q)
    obtain ⟨o, ho, r⟩ := id p
    exact ⟨its, rv, p, Heap.lt_size ho⟩
  · obtain ⟨its, rv, p, _⟩ := I.list (show SqL X.K H a xs from q)
    exact ⟨its, rv, p.isList, p.lt⟩
theorem SqB.inj (I : Inv X pins σ H s) {b : Bool} {a : Addr} {xs ys : List V} (q : SqB X.K b H a xs) (q' : SqB X.K b H a ys) : xs = ys := by
  cases b
  · exact I.tuple_inj q q'
  · exact I.list_inj q q'
end
/-- a and b as they stand at each turn, the items in new pairs -/
def ItzB (K : PySem.W.Frag) (ba bb : Bool) (a b : Addr) : It :=
  ⟨fun i H => ∃ (xs ys : List V) (x y : V), SqB K ba H a xs ∧ SqB K bb H b ys ∧ xs[i]? = some x ∧ ys[i]? = some y,
    fun i H v H' => ∃ T x y, v = .ref T ∧ H T = none ∧ H' = upd H T (.tup [x, y]) ∧ (∀ xs, SqB K ba H a xs → xs[i]? = some x) ∧ ∀ ys, SqB K bb H b ys → ys[i]? = some y,
    fun i H => ∃ xs ys : List V, SqB K ba H a xs ∧ SqB K bb H b ys ∧ i ≤ xs.length ∧ i ≤ ys.length ∧ (i = xs.length ∨ i = ys.length)⟩
theorem turn_zipB {P : Program} {w : World} {K : PySem.W.Frag} {elts : List Expr} {kk : Nat} {tpos : Pos} {ba bb : Bool} {a b z TI TO i1 i2 : Addr} (S : ZipSep2 z TI TO i1 i2 [i1, a] [i2, b]) (n1 : a ≠ i1) (n2 : b ≠ i2) :
    Turn P w K (.Tuple elts kk tpos) (ItzB K ba bb a b) [z, TI, TO, i1, i2] z (fun i h => IsZip h z TI TO .none ∧ IsTupOf2 h TI (.ref i1) (.ref i2) ∧ (∃ x y, IsTupOf2 h TO x y) ∧ ItB ba h i1 a i ∧ ItB bb h i2 b i) where
  mem := by simp
  obj := fun i h st c hc => by
    obtain ⟨hz, hTI, ⟨x, y, hTO⟩, h1, h2⟩ := st
    have e' : c = z ∨ c = TI ∨ c = TO ∨ c = i1 ∨ c = i2 := by simpa using hc
    rcases e' with rfl | rfl | rfl | rfl | rfl
    · exact ⟨_, hz, fun v q => nomatch q⟩
    · exact ⟨_, hTI, fun v q => nomatch q⟩
    · exact ⟨_, hTO, fun v q => nomatch q⟩
    · exact h1.obj
    · exact h2.obj
  keep := fun i h h' st k => by
    obtain ⟨hz, hTI, ⟨x, y, hTO⟩, h1, h2⟩ := st
    exact ⟨k z (by simp) _ hz, k TI (by simp) _ hTI, ⟨x, y, k TO (by simp) _ hTO⟩, h1.at fun o q => k i1 (by simp) o q, h2.at fun o q => k i2 (by simp) o q⟩
  item := by
    intro X hP hw hK hc i pins s σ H E I hf st hg
    subst hP hw hK
    obtain ⟨hz, hTI, ⟨x0, y0, hTO⟩, h1, h2⟩ := st
    obtain ⟨xs, ys, x, y, hqx, hqy, hx, hy⟩ := hg
    obtain ⟨its, rv, p, la⟩ := hqx.arr I
    obtain ⟨its2, rv2, p2, lb⟩ := hqy.arr I
    obtain ⟨u, hu, ru⟩ := rv.get hx
    obtain ⟨u2, hu2, ru2⟩ := rv2.get hy
    have hzl : z < s.heap.objs.size := Heap.lt_size hz
    have li : i < its.toArray.size := by
      have := (List.getElem?_eq_some_iff.mp hu).1
      simpa using this
    have li2 : i < its2.toArray.size := by
      have := (List.getElem?_eq_some_iff.mp hu2).1
      simpa using this
    have hh := I.ok.hd hc
    refine wpAny_pyNext_zipD2_item S (drawsB (A := X.A.in1) hh ba i1 a n1 its.toArray) (drawsB (A := X.A.in1) hh bb i2 b n2 its2.toArray) hz hTI hTO ⟨h1, p⟩ ⟨h2, p2⟩ li li2 fun v1 v2 h' tk e1 e2 z' TO' d1 d2 hT hsz hk => ?_
    have ev1 : v1 = u := by
      have : its[i]? = some v1 := by simpa using e1
      rw [hu] at this; cases this; rfl
    have ev2 : v2 = u2 := by
      have : its2[i]? = some v2 := by simpa using e2
      rw [hu2] at this; cases this; rfl
    subst ev1; subst ev2
    refine ⟨_, rfl, wpAny_letOwnedTupleGo_zip (s := { s with heap := h', toks := tk }) z' fun h'' z'' sb => ?_⟩
    have hT2 : h''.get? s.heap.objs.size = some { cls := .type "tuple", data := .seq #[v1, v2] } := (sb.2 _ (Nat.ne_of_gt hzl)).trans hT
    have new : ObjOk X.prog X.w (upd H s.heap.objs.size (.tup [x, y])) h'' s.heap.objs.size (.tup [x, y]) :=
      ⟨by show 2 ≤ sizeLine; decide, [v1, v2], .cons ru (.cons ru2 .nil), ⟨_, hT2, rfl, _, rfl⟩⟩
    have I1 : Inv X pins σ (upd H s.heap.objs.size (.tup [x, y])) { s with heap := h'', toks := tk } :=
      I.turnedNew (t' := tk) (ch := [z, TI, TO, i1, i2]) (fun c o hb q => (sb.2 c (fun q' => hb (by simp [q']))).trans (hk c o (fun q' => hb (by simp [q'])) (fun q' => hb (by simp [q'])) (fun q' => hb (by simp [q'])) (fun q' => hb (by simp [q'])) q)) hf (Nat.le_refl _) new
    have i1z : i1 ≠ z := fun e => S.zf1 (by rw [e]; simp)
    have i2z : i2 ≠ z := fun e => S.zf2 (by rw [e]; simp)
    refine ⟨.ref s.heap.objs.size, _, I1, rfl, ⟨_, x, y, rfl, I.hok.fresh (Nat.le_refl _), rfl, fun l hl => by rw [hl.inj I hqx]; exact hx, fun l hl => by rw [hl.inj I hqy]; exact hy⟩, ⟨z'', ?_, ⟨v1, v2, ?_⟩, ?_, ?_⟩, fun c hcm => ?_⟩
    · exact (sb.2 _ S.TIz).trans (hk _ _ S.TIz S.TITO S.TIi1 S.TIi2 hTI)
    · exact (sb.2 _ S.TOz).trans TO'
    · exact d1.1.at fun o q => (sb.2 _ i1z).trans q
    · exact d2.1.at fun o q => (sb.2 _ i2z).trans q
    · have hlt : c < s.heap.objs.size := by
        have e' : c = z ∨ c = TI ∨ c = TO ∨ c = i1 ∨ c = i2 := by simpa using hcm
        rcases e' with q | q | q | q | q
        · rw [q]; exact hzl
        · rw [q]; exact Heap.lt_size hTI
        · rw [q]; exact Heap.lt_size hTO
        · rw [q]; obtain ⟨_, e1, _⟩ := h1.obj; exact Heap.lt_size e1
        · rw [q]; obtain ⟨_, e2, _⟩ := h2.obj; exact Heap.lt_size e2
      rw [upd_ne (Nat.ne_of_lt hlt)]
      exact (hf c hcm).1
  done := by
    intro X hP hw hK hc i pins s σ H E I hf st hg
    subst hP hw hK
    obtain ⟨hz, hTI, ⟨x0, y0, hTO⟩, h1, h2⟩ := st
    obtain ⟨xs, ys, hqx, hqy, hle1, hle2, hend⟩ := hg
    obtain ⟨its, rv, p, _⟩ := hqx.arr I
    obtain ⟨its2, rv2, p2, _⟩ := hqy.arr I
    have l1 := rv.length
    have l2 := rv2.length
    have hh := I.ok.hd hc
    exact wpAny_pyNext_zipD2_end S (drawsB (A := X.A.in1) hh ba i1 a n1 its.toArray) (drawsB (A := X.A.in1) hh bb i2 b n2 its2.toArray) hz hTI hTO ⟨h1, p⟩ ⟨h2, p2⟩ (by simp; omega) (by simp; omega) (by simp; omega) fun h' tk hk => ⟨rfl, I.turnedL (t' := tk) (ch := [z, TI, TO, i1, i2]) (fun c o hb q =>
      hk c o (fun q' => hb (by simp [q'])) (fun q' => hb (by simp [q'])) (fun q' => hb (by simp [q'])) (fun q' => hb (by simp [q'])) q) hf⟩
  self := fun A i s Q E st h => wpAny_pyIter_zip st.1 h
theorem walk_zipB {K : PySem.W.Frag} {ba bb : Bool} {a b : Addr} {xs ys : List V} {n : Nat} (hn : n = min xs.length ys.length) : Walk (ItzB K ba bb a b) n (fun H => SqB K ba H a xs ∧ SqB K bb H b ys) (YPair (fun i => xs[i]?) (fun i => ys[i]?)) := by
  subst hn
  refine ⟨fun i _ hi q => ?_, fun _ q => ⟨xs, ys, q.1, q.2, by omega, by omega, by omega⟩, fun i H v H' _ q y => ?_⟩
  · have h1 : i < xs.length := by omega
    have h2 : i < ys.length := by omega
    exact ⟨xs, ys, xs[i], ys[i], q.1, q.2, List.getElem?_eq_getElem h1, List.getElem?_eq_getElem h2⟩
  · obtain ⟨T, x, z, h1, h2, h3, h4, h5⟩ := y
    exact ⟨T, x, z, h1, h2, h3, h4 xs q.1, h5 ys q.2⟩
def iZipB (K : PySem.W.Frag) (ta : TA) : TI := fun σ H R => ta σ H fun vs H1 => ∃ a b ba bb xs ys, vs = [.ref a, .ref b] ∧ SqB K ba H1 a xs ∧ SqB K bb H1 b ys ∧ R (ItzB K ba bb a b) H1
theorem pi_zipB {X : Cx} {e e2 : Expr} {ta : TA} {p pos tpos : Pos} {elts : List Expr} {kk : Nat} (hg : Gl X "zip") (hm : X.mg "zip" = none) (ha : PA X [e, e2] ta)
    (hs : starEach [e, e2] X.env = (false, eval e X.env) :: starEach [e2] X.env := by rfl) (hpl : (backTo pos (starEach [e2] X.env)).any (·.1) = false := by rfl) :
    PI X (.Tuple elts kk tpos) (.Call (.Name "zip" p) [e, e2] [] pos) (iZipB X.K ta) := by
  refine ⟨fun pins s σ H R I h => ?_⟩
  refine Call_ (ld_blt I hg hm PyProof.Rows.boot_zip (PyProof.Rows.callWith_type1 (thn (ha.run pos pins s σ H _ I h) fun us s1 ⟨vs, H1, I1, r1, q1⟩ => ?_) hs hpl))
  obtain ⟨a, b, ba, bb, xs, ys, ex, hqx, hqy, q⟩ := q1
  subst ex
  cases r1 with
  | cons r rr =>
    cases rr with
    | cons r' rr =>
      cases rr
      cases r
      cases r'
      obtain ⟨its, rv, p1, la⟩ := hqx.arr I1
      obtain ⟨its2, rv2, p2, lb⟩ := hqy.arr I1
      refine zip_begins2 (beginsB ba a its.toArray) (beginsB bb b its2.toArray) p1 p2 fun h' hz hTI hTO h1 h2 hsz hk => wpAny_pyIter_zip hz ?_
      have I2 : Inv X pins σ H1 { s1 with heap := h' } := I1.kept (t' := s1.toks) hk
      have S : ZipSep2 (s1.heap.objs.size + 4) (s1.heap.objs.size + 2) (s1.heap.objs.size + 3) s1.heap.objs.size (s1.heap.objs.size + 1) [s1.heap.objs.size, a] [s1.heap.objs.size + 1, b] :=
        zip_sep2 (fun c hc => by rw [List.mem_singleton.mp hc]; exact la) (fun c hc => by rw [List.mem_singleton.mp hc]; exact lb)
      refine ⟨s1.heap.objs.size + 4, [s1.heap.objs.size + 4, s1.heap.objs.size + 2, s1.heap.objs.size + 3, s1.heap.objs.size, s1.heap.objs.size + 1], _, _, H1, rfl, I2, turn_zipB S (Nat.ne_of_lt la) (Nat.ne_of_lt (Nat.lt_succ_of_lt lb)), ⟨hz, hTI, ⟨_, _, hTO⟩, .start h1, .start h2⟩, fun c hcm => ?_, q⟩
      have e' : c = s1.heap.objs.size + 4 ∨ c = s1.heap.objs.size + 2 ∨ c = s1.heap.objs.size + 3 ∨ c = s1.heap.objs.size ∨ c = s1.heap.objs.size + 1 := by simpa using hcm
      have hle : s1.heap.objs.size ≤ c := by
        rcases e' with z | z | z | z | z
        · rw [z]; exact Nat.le_add_right _ _
        · rw [z]; exact Nat.le_add_right _ _
        · rw [z]; exact Nat.le_add_right _ _
        · rw [z]; exact Nat.le_refl _
        · rw [z]; exact Nat.le_add_right _ _
      exact I1.fpOk hle (I1.hok.fresh hle)
/-! by values -/
def itemsD : D → Option (List D)
  | .list xs => some xs
  | .tuple xs => some xs
  | _ => none
def dZip (f k : DD) : DI := fun env τ => bnd (f env τ) fun x τ1 => bnd (k env τ1) fun y τ2 => match itemsD x, itemsD y with
  | some xs, some ys => some (zipD xs ys, τ2)
  | _, _ => none
theorem rp_sq {K : PySem.W.Frag} {Hs H : Hp} {w : V} {d : D} {xs : List D} (le : Same Hs H) (r : Rp Hs w d) (e : itemsD d = some xs) : ∃ a b vs, w = .ref a ∧ Rps Hs vs xs ∧ vs.length ≤ sizeLine ∧ ∀ H, Same Hs H → SqB K b H a vs := by
  unfold itemsD at e
  split at e
  · cases e
    cases r with
    | lst h1 h2 h3 => exact ⟨_, true, _, rfl, h3, h2, fun H le => .of (le _ _ h1)⟩
  · cases e
    cases r with
    | tup h1 h2 h3 => exact ⟨_, false, _, rfl, h3, h2, fun H le => .of (le _ _ h1)⟩
  · cases e
theorem rdb_sq {K : PySem.W.Frag} {g : G} {Hs H : Hp} {w : V} {d : D} {xs : List D} {τ : Tp} (r : Rdb g.aT Hs H w d) (e : itemsD d = some xs) : ∃ a b vs, w = .ref a ∧ Rps Hs vs xs ∧ vs.length ≤ sizeLine ∧ ∀ Hs2 H2 τ2, Same Hs H → Up g Hs H Hs2 H2 τ2 → SqB K b H2 a vs := by
  rcases r with r | ⟨ds, p, ys, rfl, rfl, nT, hp, hl, hr⟩
  · by_cases le : Same Hs H
    · obtain ⟨a, b, vs, h1, h2, h3, h4⟩ := rp_sq (K := K) le r e
      exact ⟨a, b, vs, h1, h2, h3, fun Hs2 H2 τ2 _ u => h4 H2 (u.s.trans u.le)⟩
    · unfold itemsD at e
      split at e
      · cases e
        cases r with
        | lst h1 h2 h3 => exact ⟨_, true, _, rfl, h3, h2, fun _ _ _ l => absurd l le⟩
      · cases e
        cases r with
        | tup h1 h2 h3 => exact ⟨_, false, _, rfl, h3, h2, fun _ _ _ l => absurd l le⟩
      · cases e
  · cases e
    exact ⟨p, true, ys, rfl, hr, hl, fun Hs2 H2 τ2 _ u => .of (u.h _ _ hp nT)⟩
section
variable {X : Cx} {e e2 : Expr} {p pos tpos : Pos} {elts : List Expr} {kk : Nat} {f k : DD}
theorem ji_zip (hm : X.mg "zip" = none) (h1 : JD X e f) (h2 : JD X e2 k) (hg : Gl X "zip" := by rfl)
    (hs : starEach [e, e2] X.env = (false, eval e X.env) :: starEach [e2] X.env := by rfl) (hs2 : starEach [e2] X.env = (false, eval e2 X.env) :: starEach [] X.env := by rfl) (hpl : (backTo pos (starEach [e2] X.env)).any (·.1) = false := by rfl) :
    JI X (.Tuple elts kk tpos) (.Call (.Name "zip" p) [e, e2] [] pos) (dZip f k) :=
  PIi (pi_zipB hg hm (ja_cons h1 (ja_cons h2 ja_nil hs2) hs) hs hpl) fun σ H R ⟨g, Hs, env, τ, ds, τ', r, hf, q⟩ => by
    obtain ⟨x, τ1, h1, h2⟩ := bnd_eq hf
    obtain ⟨y, τ2, h3, h4⟩ := bnd_eq h2
    split at h4
    · rename_i xs ys hx hy
      cases h4
      refine ⟨g, Hs, env, τ, [x, y], τ', r, by show bnd (f env τ) _ = _; rw [h1]; show bnd (bnd (k env τ1) _) _ = _; rw [h3]; rfl, fun ws Hs1 H1 u1 rs => ?_⟩
      cases rs with
      | cons a1 b1 =>
        cases b1 with
        | cons a2 b2 =>
          cases b2
          obtain ⟨a, ba, vs, rfl, rx, lx, sx⟩ := rp_sq (K := X.K) u1.le a1 hx
          obtain ⟨b, bb, us, rfl, ry, ly, sy⟩ := rp_sq (K := X.K) u1.le a2 hy
          refine ⟨a, b, ba, bb, vs, us, rfl, sx H1 u1.le, sy H1 u1.le, q _ Hs1 H1 u1 ?_ ?_⟩
          · rw [zipD_len, ← rx.len]; omega
          · refine ⟨fun H => SqB X.K ba H a vs ∧ SqB X.K bb H b us, YPair (fun i => vs[i]?) (fun i => us[i]?), by rw [zipD_len]; exact walk_zipB (xs := vs) (ys := us) (by rw [rx.len, ry.len]), fun Hs2 H2 τ2 f2 => ⟨sx _ (f2.s.trans f2.le), sy _ (f2.s.trans f2.le)⟩, fun Hs2 H2 τ2 i v H3 d f2 yy hd => ?_⟩
            obtain ⟨T, v1, v2, rfl, hT, rfl, e1, e2⟩ := yy
            have e1 : vs[i]? = some v1 := e1
            have e2 : us[i]? = some v2 := e2
            obtain ⟨d1, d2, g1, g2, rfl⟩ := zipD_get hd
            obtain ⟨w1, e1', r1⟩ := rx.get g1
            obtain ⟨w2, e2', r2⟩ := ry.get g2
            rw [e1] at e1'; cases e1'
            rw [e2] at e2'; cases e2'
            exact new_pair f2.le f2.tp hT (r1.to f2.s) (r2.to f2.s)
    · cases h4
theorem jc_zip (hm : X.mg "zip" = none) (h1 : JR X e f) (h2 : JR X e2 k) (hg : Gl X "zip" := by rfl)
    (hs : starEach [e, e2] X.env = (false, eval e X.env) :: starEach [e2] X.env := by rfl) (hs2 : starEach [e2] X.env = (false, eval e2 X.env) :: starEach [] X.env := by rfl) (hpl : (backTo pos (starEach [e2] X.env)).any (·.1) = false := by rfl) :
    JC X (.Tuple elts kk tpos) (.Call (.Name "zip" p) [e, e2] [] pos) (dZip f k) :=
  PIi (pi_zipB hg hm (jr_cons h1 (jr_cons h2 jr_nil hs2) hs) hs hpl) fun σ H R ⟨g, Hs, env, τ, ds, τ', r, hf, q⟩ => by
    obtain ⟨x, τ1, h1, h2⟩ := bnd_eq hf
    obtain ⟨y, τ2, h3, h4⟩ := bnd_eq h2
    split at h4
    · rename_i xs ys hx hy
      cases h4
      refine ⟨g, Hs, env, τ, [x, y], τ', r, by show bnd (f env τ) _ = _; rw [h1]; show bnd (bnd (k env τ1) _) _ = _; rw [h3]; rfl, fun ws Hs1 H1 u1 rs => ?_⟩
      cases rs with
      | cons a1 b1 =>
        cases b1 with
        | cons a2 b2 =>
          cases b2
          obtain ⟨a, ba, vs, rfl, rx, lx, sx⟩ := rdb_sq (K := X.K) (τ := τ') a1 hx
          obtain ⟨b, bb, us, rfl, ry, ly, sy⟩ := rdb_sq (K := X.K) (τ := τ') a2 hy
          have u0 := Up.refl u1.le u1.tp
          refine ⟨a, b, ba, bb, vs, us, rfl, sx _ _ _ u1.le u0, sy _ _ _ u1.le u0, q _ Hs1 H1 u1 ?_ ?_⟩
          · rw [zipD_len, ← rx.len]; omega
          · refine ⟨fun H => SqB X.K ba H a vs ∧ SqB X.K bb H b us, YPair (fun i => vs[i]?) (fun i => us[i]?), by rw [zipD_len]; exact walk_zipB (xs := vs) (ys := us) (by rw [rx.len, ry.len]), fun Hs2 H2 τ2 f2 => ⟨sx _ _ _ u1.le f2, sy _ _ _ u1.le f2⟩, fun Hs2 H2 τ2 i v H3 d f2 yy hd => ?_⟩
            obtain ⟨T, v1, v2, rfl, hT, rfl, e1, e2⟩ := yy
            have e1 : vs[i]? = some v1 := e1
            have e2 : us[i]? = some v2 := e2
            obtain ⟨d1, d2, g1, g2, rfl⟩ := zipD_get hd
            obtain ⟨w1, e1', r1⟩ := rx.get g1
            obtain ⟨w2, e2', r2⟩ := ry.get g2
            rw [e1] at e1'; cases e1'
            rw [e2] at e2'; cases e2'
            exact new_pair f2.le f2.tp hT (r1.to f2.s) (r2.to f2.s)
    · cases h4
end
end Pv
namespace Pv
open PySem L2 PySem.Spec PyProof.Rows
inductive Ty where
  | int | bool | str | list | tuple
def tyS : Ty → String
  | .int => "int" | .bool => "bool" | .str => "str" | .list => "list" | .tuple => "tuple"
def kindS : D → String
  | .none => "NoneType" | .bool _ => "bool" | .int _ => "int" | .str _ => "str" | .list _ => "list" | .tuple _ => "tuple" | .dict _ => "dict"
def isB : D → Ty → Bool
  | .bool _, .int => true
  | .bool _, .bool => true
  | .int _, .int => true
  | .str _, .str => true
  | .list _, .list => true
  | .tuple _, .tuple => true
  | _, _ => false
theorem kit_isB (d : D) (t : Ty) : kitB (kindS d) (tyS t) = some (isB d t) := by
  cases d <;> cases t <;> (simp only [kindS, tyS, isB]; decide +kernel)
theorem rdb_ty {K : PySem.W.Frag} {aT : Addr} {Hs H : Hp} {w : V} {d : D} (le : Same Hs H) (r : Rdb aT Hs H w d) : TyX K H w (.type (kindS d)) := by
  rcases r with r | ⟨ds, p, xs, e1, e2, n, hp, hl, hr⟩
  · cases r with
    | non => exact .base .non
    | bl b => exact .base (.bl b)
    | int i => exact .base (.int i)
    | str x => exact .base (.str x)
    | lst h1 h2 h3 => exact .base (.lst (le _ _ h1))
    | tup h1 h2 h3 => exact .base (.tup (le _ _ h1))
  · subst e1; subst e2
    exact .base (.lst hp)
def dIsi (t : Ty) (f : DD) : DD := fun env τ => bnd (f env τ) fun d τ1 => some (.bool (isB d t), τ1)
def dIsi2 (t u : Ty) (f : DD) : DD := fun env τ => bnd (f env τ) fun d τ1 => some (.bool (isB d t || isB d u), τ1)
section
variable {X : Cx} {e : Expr} {p p2 p3 pos tpos : Pos} {f : DD}
theorem jisi (t : Ty) (hm : X.mg "isinstance" = none) (hm2 : X.mg (Str.ofString (tyS t)) = none) (he : JR X e f) (hg : Gl X "isinstance" := by rfl) (hg2 : Gl X (Str.ofString (tyS t)) := by rfl)
    (h1 : starEach [e, .Name (Str.ofString (tyS t)) p2] X.env = (false, eval e X.env) :: starEach [.Name (Str.ofString (tyS t)) p2] X.env := by rfl) (h2 : starEach [.Name (Str.ofString (tyS t)) p2] X.env = (false, eval (.Name (Str.ofString (tyS t)) p2) X.env) :: starEach [] X.env := by rfl) (hpl : (backTo pos (starEach [.Name (Str.ofString (tyS t)) p2] X.env)).any (·.1) = false := by rfl) :
    JD X (.Call (.Name "isinstance" p) [e, .Name (Str.ofString (tyS t)) p2] [] pos) (dIsi t f) :=
  PEi (pe_callB call_isi hg hm (by decide +kernel) (pa_cons he (pa_cons (pe_bltn (v := .ty (tyS t)) (u := .type (tyS t)) hg2 hm2 (by cases t <;> decide +kernel) rfl (by cases t <;> decide) (by cases t <;> decide)) pa_nil h2) h1) (by decide) (by decide) h1 hpl) fun σ H Q ⟨g, Hs, env, τ, o, τ', r, hf, q⟩ => by
    obtain ⟨d, τ1, h1, h2⟩ := bnd_eq hf
    cases h2
    refine ⟨g, Hs, env, τ, d, _, r, h1, fun w Hs1 H1 u1 rv => ?_⟩
    exact ⟨w, .ty (tyS t), .type (kindS d), .type (tyS t), isB d t, rfl, .ty _, rdb_ty u1.le rv, kit_ty (kit_isB d t), q _ Hs1 H1 u1 (.bl _)⟩
theorem kit2 {K : PySem.W.Frag} (d : D) (t u : Ty) : PySem.W.kitAny K (.type (kindS d)) [.type (tyS t), .type (tyS u)] = some (isB d t || isB d u) := by
  refine kitAny_cons (kit_ty (kit_isB d t)) (fun e => ?_) fun e => by rw [e]; rfl
  rw [e]
  refine kitAny_cons (kit_ty (kit_isB d u)) (fun e => ?_) fun e => by rw [e]; rfl
  rw [e]
  exact kitAny_nil
theorem jisi2 {k : Nat} (t u : Ty) (hm : X.mg "isinstance" = none) (hm2 : X.mg (Str.ofString (tyS t)) = none) (hm3 : X.mg (Str.ofString (tyS u)) = none) (he : JR X e f) (hg : Gl X "isinstance" := by rfl) (hg2 : Gl X (Str.ofString (tyS t)) := by rfl) (hg3 : Gl X (Str.ofString (tyS u)) := by rfl)
    (h1 : starEach [e, .Tuple [.Name (Str.ofString (tyS t)) p2, .Name (Str.ofString (tyS u)) p3] k tpos] X.env = (false, eval e X.env) :: starEach [.Tuple [.Name (Str.ofString (tyS t)) p2, .Name (Str.ofString (tyS u)) p3] k tpos] X.env := by rfl)
    (h2 : starEach [.Tuple [.Name (Str.ofString (tyS t)) p2, .Name (Str.ofString (tyS u)) p3] k tpos] X.env = (false, eval (.Tuple [.Name (Str.ofString (tyS t)) p2, .Name (Str.ofString (tyS u)) p3] k tpos) X.env) :: starEach [] X.env := by rfl)
    (h3 : starEach [.Name (Str.ofString (tyS t)) p2, .Name (Str.ofString (tyS u)) p3] X.env = (false, eval (.Name (Str.ofString (tyS t)) p2) X.env) :: starEach [.Name (Str.ofString (tyS u)) p3] X.env := by rfl) (h4 : starEach [.Name (Str.ofString (tyS u)) p3] X.env = (false, eval (.Name (Str.ofString (tyS u)) p3) X.env) :: starEach [] X.env := by rfl)
    (hpl : (backTo pos (starEach [.Tuple [.Name (Str.ofString (tyS t)) p2, .Name (Str.ofString (tyS u)) p3] k tpos] X.env)).any (·.1) = false := by rfl) :
    JD X (.Call (.Name "isinstance" p) [e, .Tuple [.Name (Str.ofString (tyS t)) p2, .Name (Str.ofString (tyS u)) p3] k tpos] [] pos) (dIsi2 t u f) :=
  PEi (pe_callB call_isiT hg hm (by decide +kernel) (pa_cons he (pa_cons (pe_tup (pa_cons (pe_bltn (v := .ty (tyS t)) (u := .type (tyS t)) hg2 hm2 (by cases t <;> decide +kernel) rfl (by cases t <;> decide) (by cases t <;> decide)) (pa_cons (pe_bltn (v := .ty (tyS u)) (u := .type (tyS u)) hg3 hm3 (by cases u <;> decide +kernel) rfl (by cases u <;> decide) (by cases u <;> decide)) pa_nil h4) h3)) pa_nil h2) h1) (by decide) (by decide) h1 hpl) fun σ H Q ⟨g, Hs, env, τ, o, τ', r, hf, q⟩ => by
    obtain ⟨d, τ1, h1, h2⟩ := bnd_eq hf
    cases h2
    refine ⟨g, Hs, env, τ, d, _, r, h1, fun w Hs1 H1 u1 rv => ?_⟩
    refine ⟨by show 2 ≤ sizeLine; decide, fun T hT => ?_⟩
    have u2 := u1.mk1 (o := .tup [.ty (tyS t), .ty (tyS u)]) hT
    refine ⟨w, T, [.ty (tyS t), .ty (tyS u)], .type (kindS d), [.type (tyS t), .type (tyS u)], isB d t || isB d u, rfl, upd_same, .cons (.ty _) (.cons (.ty _) .nil), rdb_ty u2.le (rv.up ⟨.refl _, fun b o e n => by rw [upd_ne (ne_of_none e hT)]; exact e, fun b o e n => (by rw [n] at e; cases e), u2.le, u2.tp⟩), kit2 d t u, q _ Hs1 _ u2 (.bl _)⟩
end
end Pv
namespace Pv
open PySem L2 PySem.Spec PyProof.Rows
section
variable {X : Cx}
theorem ps_storeDc {i : Nat} {y : Str} {py : Pos} {kx vx tg iter : Expr} {ifs : List Expr} {scope : Scope} {own : List (Str × Nat)} {pos spos : Pos} {wi : TI} {g : TG} {tt : TT} {tk tv : TE} (hc : X.calm = true) (hN : X.N.Nodup) (hy : X.N[i]? = some y) (hyl : X.env.scope.names.lookup y = some .local)
    (hsw : swapsWith (.DictComp kx vx [⟨tg, iter, ifs, 0⟩] scope pos) (some (.Name y py)) spos.line X.env = pure true) (hi : PI X tg iter wi) (ok : BlkOk X.N X.env.scope scope own)
    (hg : ∀ (s : Shared) (H : Hp) (C : Addr) (cl : List (Str × Addr)) (fp : List Addr), PG (X.blk s H scope (compEnvC scope cl C X.env) fp) tg g) (ht : ∀ (s : Shared) (H : Hp) (C : Addr) (cl : List (Str × Addr)) (fp : List Addr), PTs (X.blk s H scope (compEnvC scope cl C X.env) fp) ifs tt)
    (hk : ∀ (s : Shared) (H : Hp) (C : Addr) (cl : List (Str × Addr)) (fp : List Addr), PE (X.blk s H scope (compEnvC scope cl C X.env) fp) kx tk)
    (he : ∀ (s : Shared) (H : Hp) (C : Addr) (cl : List (Str × Addr)) (fp : List Addr), PE (X.blk s H scope (compEnvC scope cl C X.env) fp) vx tv) (hs : ∀ x, foldedSetIterable iter X.env x = pure x) :
    PS X (.Assign [.Name y py] (.DictComp kx vx [⟨tg, iter, ifs, 0⟩] scope pos) spos) (tAsg (tDc wi g tt tk tv (own.map (·.2))) (gName i)) := by
  refine ⟨fun pins s σ H D I h => ?_⟩
  rw [exec_Assign_Name_used _ _ _ _ hsw]
  refine wpAny_bind (wpAny_standAt (wpAny_bind ?_))
  show wpAny _ X.A (do
    let _ ← comprehension (.DictComp kx vx [⟨tg, iter, ifs, 0⟩] scope pos) scope X.env (firstIterPos [⟨tg, iter, ifs, 0⟩] pos) newDict false (eval iter X.env) (some (assign (.Name y py) X.env))) _ _ s
  have h : tDc wi g tt tk tv (own.map (·.2)) σ H (fun x H1 => gName i x σ H1 D.nx) := h
  refine wpAny_bind (thn (dc_core (Qf := fun _ s' => SP X pins D .next s') hc hN I hi ok hg ht hk he hs h fun L C s' m H' I' q hn f => ?_) fun _ s' hq => wpAny_pure (wpAny_pure hq))
  show wpAny _ _ (assign (.Name y py) X.env (.ref L)) _ _ _
  refine wpAny_assign_Name (store_ok2 (v := V.ref L) I' hN hy (.inl hyl) rfl (fun s2 I2 ⟨a, sb, ha⟩ => ?_) (.inr hyl))
  obtain ⟨f0, f1, f2, f3, f4, f5⟩ := f
  have haC : C ≠ a := by
    rcases ha with z | z
    · rw [z]; exact f1
    · exact fun e => f4 y a z e.symm
  exact ⟨m, hn.sameBut sb haC, fun h3 sb3 => ⟨_, H', I2.turned (t' := s2.toks) (fun b o hb e => (sb3.2 b hb).trans e) f0 f1 f3 f4 f5, q⟩⟩
theorem sw_trueD {kx vx : Expr} {gs : List Comprehension} {scope : Scope} {pos py : Pos} {y : Str} {l : Nat} {env : Env} (hk : env.scope.kind = .function) (hy : env.scope.names.lookup y = some .local) (hl : (py.line == pos.line) = true)
    (ha : (scope.names.any fun (n, k) => n == y && (k == .local || k == .cell)) = false) : swapsWith (.DictComp kx vx gs scope pos) (some (.Name y py)) l env = pure true := by
  have k1 : env.kindOf y = some .local := hy
  have k2 : env.blockKind = .function := by unfold Env.blockKind; rw [hk]; rfl
  unfold swapsWith
  simp only [k2, k1, ha, Expr.pos, hl]
  rfl
theorem js_asgDO {i : Nat} {y : Str} {py pos spos : Pos} {kx vx tg iter : Expr} {ifs : List Expr} {scope : Scope} {own : List (Str × Nat)} {is : List Nat} {it : DI} {b : DG} {c : DT} {k ed : DD} (hN : X.N.Nodup) (hi : JC X tg iter it) (ok : BlkOk X.N X.env.scope scope own)
    (hg : ∀ (s : Shared) (H : Hp) (C : Addr) (cl : List (Str × Addr)) (fp : List Addr), JG (X.blk s H scope (compEnvC scope cl C X.env) fp) tg is b)
    (ht : ∀ (s : Shared) (H : Hp) (C : Addr) (cl : List (Str × Addr)) (fp : List Addr), JTs (X.blk s H scope (compEnvC scope cl C X.env) fp) ifs c)
    (hk : ∀ (s : Shared) (H : Hp) (C : Addr) (cl : List (Str × Addr)) (fp : List Addr), JD (X.blk s H scope (compEnvC scope cl C X.env) fp) kx k)
    (he : ∀ (s : Shared) (H : Hp) (C : Addr) (cl : List (Str × Addr)) (fp : List Addr), JD (X.blk s H scope (compEnvC scope cl C X.env) fp) vx ed)
    (hsw : swapsWith (.DictComp kx vx [⟨tg, iter, ifs, 0⟩] scope pos) (some (.Name y py)) spos.line X.env = pure true := by exact sw_trueD rfl rfl rfl (by decide +kernel))
    (his : ∀ i ∈ is, i ∈ own.map (·.2) := by decide) (hc : X.calm = true := by rfl) (hs : ∀ x, foldedSetIterable iter X.env x = pure x := by intro _; rfl) (hy : X.N[i]? = some y := by rfl) (hyl : X.env.scope.names.lookup y = some .local := by rfl) :
    JS X (.Assign [.Name y py] (.DictComp kx vx [⟨tg, iter, ifs, 0⟩] scope pos) spos) (sAsgO i (dDc (own.map (·.2)) it b c k ed)) := PSi (ps_storeDc hc hN hy hyl hsw hi ok hg ht hk he hs) (asgO_run (dc_run his))
/-- a, b, c = x, y, z: three plain locals -/
theorem js_par3 {i j l : Nat} {x y z : Str} {a b c : Expr} {f : DW} {px py pz pt pos : Pos} {kt k2 : Nat} {pt2 : Pos} (hN : X.N.Nodup) (ha : JWs X [a, b, c] f) (hi : X.N[i]? = some x := by rfl) (hj : X.N[j]? = some y := by rfl) (hl : X.N[l]? = some z := by rfl) (hij : i ≠ j := by decide) (hil : i ≠ l := by decide) (hjl : j ≠ l := by decide)
    (hx : X.env.scope.names.lookup x = some .local := by rfl) (hy : X.env.scope.names.lookup y = some .local := by rfl) (hz : X.env.scope.names.lookup z = some .local := by rfl)
    (hw : swappedStores [.Tuple [.Name x px, .Name y py, .Name z pz] kt pt] (.Tuple [a, b, c] k2 pt2) X.env = pure (some [x, y, z]) := by rfl) (hs : swapsWithSole [.Tuple [.Name x px, .Name y py, .Name z pz] kt pt] (.Tuple [a, b, c] k2 pt2) pos.line X.env = pure false := by rfl) (hc : X.calm = true := by rfl) :
    JS X (.Assign [.Tuple [.Name x px, .Name y py, .Name z pz] kt pt] (.Tuple [a, b, c] k2 pt2) pos) (sPar [i, j, l] f) := PSi (ps_par3 hc hN hi hj hl hij hil hjl hx hy hz ha hw hs) fun E σ H ⟨g, Hs, env, τ, o, τ', r, hf, q⟩ => by
  obtain ⟨vs, τ1, h1, h2⟩ := bnd_eq hf
  split at h2
  · rename_i hl
    cases h2
    refine ⟨g, Hs, env, τ, vs, _, r, h1, fun ws Hs1 H1 u1 rv ap => ?_⟩
    have hr := par_rel (is := [i, j, l]) r u1 (Up.refl u1.le u1.tp) rv ap
    cases rv with
    | nil => cases hl
    | cons a b =>
      cases b with
      | nil => cases hl
      | cons a2 b2 =>
        cases b2 with
        | nil => cases hl
        | cons a3 b3 =>
          cases b3 with
          | nil => exact ⟨_, _, _, rfl, q _ Hs1 H1 u1.s hr⟩
          | cons _ _ => cases hl
  · cases h2
end
/-! ### the law -/
def spLaw (K : PySem.W.Frag) : Sp := fun vs H Q _ => ∃ (a : Addr) (ns : List Int), vs = [.ref a] ∧ SqL K H a (ns.map V.int) ∧ ns.length ≤ 63 ∧ ∀ H', Q (.bl true) H'
/-- the names of the law once its tape stands: slot 1 -/
def lawE (n : Nat) : Ev := (List.replicate n none).set 1 (some .tp)
abbrev tListC (K : PySem.W.Frag) : TE := tCB (fun xs H Q => ∃ p ys, xs = [.ref p] ∧ (SqL K H p ys ∨ SqT K H p ys) ∧ ∀ l, H l = none → Q (.ref l) (upd H l (.lst ys))) (tCons (tVar 0) tNil)
/-- tape = [list(script), 0, 0], then the rest -/
theorem law_start {K : PySem.W.Frag} {N : List Str} {H : Hp} {Q : VK} {E : XK} {vs : List V} {b : DS} (hN : 2 ≤ N.length) (h : spLaw K vs H Q E)
    (hb : ∀ ns : List Int, ns.length ≤ 63 → ∃ τ', b (lawE N.length) ⟨ns, 0, 0⟩ = some (.rt (.sh (.bool true)), τ')) :
    tSeq (tAsg (tLst (tCons (tListC K) (tCons (tC (.int 0)) (tCons (tC (.int 0)) tNil)))) (gName 1)) (tS b) { nx := fun _ H' => Q .non H', rt := Q } (start N vs) H := by
  obtain ⟨a, ns, rfl, hS, hl, q⟩ := h
  obtain ⟨τ', hb⟩ := hb ns hl
  refine ⟨.ref a, rfl, a, ns.map V.int, rfl, .inl hS, fun aS nS => ⟨by show 3 ≤ sizeLine; decide, fun aT nT => ?_⟩⟩
  have ne : aT ≠ aS := fun e => by rw [e, upd_same] at nT; cases nT
  have hN1 : 1 < (start N [V.ref a]).length := by
    unfold L2.start
    rw [List.length_append, List.length_replicate]
    show 1 < 1 + (N.length - 1)
    omega
  have hlen : (lawE N.length).length = N.length := by unfold lawE; rw [List.length_set, List.length_replicate]
  have hl2 : (start N [V.ref a]).length = N.length := by
    unfold L2.start
    rw [List.length_append, List.length_replicate]
    show 1 + (N.length - 1) = N.length
    omega
  have slot : ∀ (i : Nat) v, (lawE N.length)[i]? = some (some v) → i = 1 ∧ v = .tp := fun i v e => by
    unfold lawE at e
    by_cases hi : 1 = i
    · subst hi
      rw [List.getElem?_set_self (by rw [List.length_replicate]; omega)] at e
      cases e
      exact ⟨rfl, rfl⟩
    · rw [List.getElem?_set_ne hi, List.getElem?_replicate] at e
      split at e <;> cases e
  refine ⟨⟨fun _ => none, upd (fun _ => none) aS (.lst (ns.map V.int)), aT, aS⟩, upd (fun _ => none) aS (.lst (ns.map V.int)), lawE N.length, ⟨ns, 0, 0⟩, _, τ', ⟨fun b o e => ?_, ⟨upd_same, upd_ne ne, upd_same, hl⟩, .refl _, (fun b o e _ => (by cases e)), fun b o e n => rfl, fun i v e => ?_, fun i v p e ho => ?_, fun i j v v' p e e' ho => ?_, ?_⟩, hb, ?_⟩
  · by_cases hb : b = aS
    · subst hb
      rw [upd_same] at e; cases e
      rw [upd_ne ne.symm, upd_same]
    · rw [upd_ne hb] at e; cases e
  · obtain ⟨rfl, rfl⟩ := slot i v e
    exact ⟨.ref aT, List.getElem?_set_self hN1, rfl⟩
  · obtain ⟨rfl, rfl⟩ := slot i v e
    cases ho
  · obtain ⟨rfl, rfl⟩ := slot i v e
    cases ho
  · rw [hlen, List.length_set]; exact hl2.symm
  · intro w Hs' H' _ r rv _
    cases rv
    exact q H'
end Pv
namespace Pv
open PySem L2 PySem.Spec PyProof.Rows
/-- the def of that name stands -/
def Fd (K : PySem.W.Frag) (mg : Str → Option Value) (x : Str) (st : Stmt) (ps : List Str) : Prop := ∃ f fd, mg x = some (.ref f) ∧ Fun K x x st f fd ∧ Binds K fd ps []
section
variable {P : Program} {w : World} {K : PySem.W.Frag} {mg : Str → Option Value} {base : Heap} {x : Str} {st : Stmt} {N ps : List Str} {k i : Nat} {tb : Nat → Option Df}
theorem has_zero (F : Fd K mg x st ps) (np : Nat) (hn : ps.length = np) : Has P w K mg base 0 x np (callK tb 0 i) := by
  obtain ⟨f, fd, hm, Fn, hb⟩ := F
  subst hn
  exact has_none hm Fn hb fun _ _ => rfl
theorem has_step {b : (Nat → Cal) → DS} (F : Fd K mg x st ps) (S : FnScope N ps (defScope st)) (np nn : Nat) (hn : ps.length = np) (hN : N.length = nn) (ht : tb i = some ⟨np, nn, b⟩)
    (hbody : ∀ (f : Addr) (cdv : Value) (A : Around) (outer : List PySem.Env) (s : Shared) (H : Hp) (E : XK), Room k (A.deeper (envOfC x (defScope st) s.heap.objs.size f cdv)) → JSs (cxOf CX0 P w K mg base N x (defScope st) f cdv A outer s H E).nox (defBody st) (b (callK tb k))) : Has P w K mg base (k + 1) x np (callK tb (k + 1) i) := by
  obtain ⟨f, fd, hm, Fn, hb⟩ := F
  subst hn; subst hN
  rw [callK_succ ht]
  exact has_def hm Fn S hb (hbody f)
theorem fd_mk {f : Addr} {h : Heap} {oc : Value} {od an : Option Addr} {osl : Array (Option Value)} {kV doc pm cdv ct : Value} (X : K.In h) (G : h.Ns mainGlobals mg) (a : PySem.W.nsIn K mainGlobals x = some (some (.ref f)))
    (l : K.lookup f = some ⟨oc, od, .func (PySem.W.fnOf x x (defArgs st) (defBody st) (defScope st) .none kV doc pm an cdv ct), osl⟩) (c : PySem.W.codeIn K cdv x = true) (kp : PySem.W.keepIn K (.ref f) = true)
    (h : ∀ (kV doc pm : Value) (an : Option Addr) (cdv ct : Value) (us : List Value), us.length = ps.length → bindArgs (PySem.W.fnOf x x (defArgs st) (defBody st) (defScope st) .none kV doc pm an cdv ct) ⟨us, []⟩ = pure (ps.zip us)) : Fd K mg x st ps :=
  ⟨f, _, PySem.W.mg_of X G a, fun_mk l c kp, (fun_mk l c kp).binds h⟩
end
end Pv
namespace Pv
open PySem L2 PySem.Spec PyProof.Rows
theorem fm_congr {α β : Type} {f g : α → Option β} : ∀ {l : List α}, (∀ x ∈ l, f x = g x) → l.filterMap f = l.filterMap g
  | [], _ => rfl
  | x :: l, h => by
    rw [List.filterMap_cons, List.filterMap_cons, h x List.mem_cons_self, fm_congr fun y hy => h y (List.mem_cons_of_mem _ hy)]
section
variable {prog : Program} {w : World} {A : Around} {E : Value → Shared → Prop} {s : Shared}
theorem applied_rev {sl : Addr} {vl vu vs : Value} {n : Nat} {Q : Int × Int × Nat → Shared → Prop} (hs : s.heap.IsSliceOf sl vl vu vs) (pl : IsPart vl none) (pu : IsPart vu none) (ps : IsPart vs (some (-1))) (h : Q ((n : Int) - 1, -1, n) s) :
    wpAny (model prog w) A (Builtin.Slice.sliceApplied (.ref sl) (pure (n : Int))) Q E s := by
  obtain ⟨os, hos, hcs, hds⟩ := id hs
  unfold Builtin.Slice.sliceApplied Builtin.Slice.sliceFields
  refine wpAny_bind (wpAny_bind (wpAny_field hos hds (x := vl) rfl (wpAny_bind (wpAny_field hos hds (x := vu) rfl (wpAny_bind (wpAny_field hos hds (x := vs) rfl (wpAny_pure ?_)))))))
  refine wpAny_bind (HT.slicePart_ ps ?_)
  show wpAny _ _ (if ((-1 : Int) == 0) = true then _ else _) _ _ s
  rw [if_neg (by decide)]
  refine wpAny_bind (HT.slicePart_ pl (wpAny_bind (HT.slicePart_ pu (wpAny_bind (wpAny_pure ?_)))))
  show wpAny _ _ (pure ((n : Int) - 1, (-1 : Int), Builtin.Slice.slicePlaces ((n : Int) - 1) (-1) (-1))) _ _ s
  have e : Builtin.Slice.slicePlaces ((n : Int) - 1) (-1) (-1) = n := by
    unfold Builtin.Slice.slicePlaces
    simp only [show ¬ ((-1 : Int) > 0) by omega, if_false]
    split
    · rw [show -(-1 : Int) = 1 by omega, Int.ediv_one]; omega
    · omega
  rw [e]
  exact wpAny_pure h
theorem pick_rev (xs : Array Value) : ((List.range xs.size).filterMap fun (k : Nat) => xs[(((xs.size : Int) - 1) + (k : Int) * (-1)).toNat]?).toArray = xs.toList.reverse.toArray := by
  have e : (List.range xs.size).filterMap (fun (k : Nat) => xs[(((xs.size : Int) - 1) + (k : Int) * (-1)).toNat]?) = ((List.range xs.size).map fun k => xs.size - 1 - k).filterMap (xs[·]?) := by
    rw [List.filterMap_map]
    refine fm_congr fun k hk => ?_
    have := List.mem_range.mp hk
    show xs[(((xs.size : Int) - 1) + (k : Int) * (-1)).toNat]? = xs[xs.size - 1 - k]?
    rw [show (((xs.size : Int) - 1) + (k : Int) * (-1)).toNat = xs.size - 1 - k by omega]
  rw [e, PySem.W.krv_range, List.filterMap_reverse, PySem.W.krv_all]
theorem getItem_tuple_rev {t sl : Addr} {items : Array Value} {vl vu vs : Value} {Q : Value → Shared → Prop} (ht : IsTup s.heap t items) (hs : s.heap.IsSliceOf sl vl vu vs) (pl : IsPart vl none) (pu : IsPart vu none) (ps : IsPart vs (some (-1)))
    (h : Q (.ref s.heap.objs.size) { s with heap := s.heap.push { cls := .type "tuple", data := .seq items.toList.reverse.toArray } }) (hsz : items.size ≤ sizeLine) : wpAny (model prog w) A (getItem (.ref t) (.ref sl)) Q E s := by
  have hok : sizeOk (.seq items.toList.reverse.toArray) := by
    show items.toList.reverse.toArray.size ≤ sizeLine
    rw [List.size_toArray, List.length_reverse, Array.length_toList]
    exact hsz
  obtain ⟨os, hos, hcs, hds⟩ := id hs
  have hTs : s.TypeIs (.ref sl) "slice" := ⟨os, hos, hcs⟩
  unfold getItem
  try with_reducible refine wpAny_holding ?_
  first | refine wpAny_bind (wpAny_pure ?_) | skip
  refine wpAny_bind (wpAny_sequenceKey ht.typeIs (by decide) ?_)
  refine wpAny_bind (wpAny_callSpecial?_slot (name := Str.ofString "__getitem__") ht.typeIs PyProof.Rows.slot_tuple_getitem
    (wpAny_call_entry PyProof.Rows.slot_tuple_getitem ht.typeIs entry_tuple_getitem ?_ (args_tuple_getitem _ _)))
  show wpAny _ _ (Builtin.Tuple.tupleItemsOf (.ref t) >>= _) _ _ s
  refine wpAny_bind (tupleItemsOf_ ht ?_)
  refine wpAny_bind (wpAny_typeOf hTs ?_)
  rw [if_pos (by decide)]
  refine wpAny_bind (applied_rev hs pl pu ps ?_)
  show wpAny _ _ (if (((items.size : Int) - 1) == 0 && (-1 : Int) == 1 && items.size == items.size) = true then _ else _) _ _ s
  rw [if_neg (by simp), pick_rev]
  first
    | exact wpAny_bind (m := Builtin.Tuple.tupleExact _) (wpAny_newObj_type (wpAny_pure ⟨_, rfl, wpAny_pure h⟩) hok)
    | exact wpAny_bind (m := Builtin.Tuple.tupleExact _) (wpAny_newObj_type (wpAny_bind (wpAny_pure (wpAny_pure ⟨_, rfl, wpAny_pure h⟩))) hok)
    | exact wpAny_bind (wpAny_bind (m := Builtin.Tuple.tupleExact _) (wpAny_newObj_type (wpAny_pure (wpAny_pure ⟨_, rfl, wpAny_pure h⟩)) hok))
    | exact wpAny_bind (wpAny_bind (m := Builtin.Tuple.tupleExact _) (wpAny_newObj_type (wpAny_pure ⟨_, rfl, wpAny_pure h⟩) hok))
end
section
variable {X : Cx}
def tRevA (K : PySem.W.Frag) (te : TE) : TE := fun σ H Q => te σ H fun x H1 => (∃ a xs, x = .ref a ∧ SqL K H1 a xs ∧ ∀ p, H1 p = none → Q (.ref p) (upd H1 p (.lst xs.reverse))) ∨ ∃ a xs, x = .ref a ∧ SqT K H1 a xs ∧ ∀ p, H1 p = none → Q (.ref p) (upd H1 p (.tup xs.reverse))
theorem pe_revA {e : Expr} {te : TE} {k : Nat} {p1 p2 p3 pos : Pos} (he : PE X e te) : PE X (.Subscript e (.Slice none none (some (.UnaryOp .USub (.Constant (.int 1) k p1) p2)) p3) pos) (tRevA X.K te) := by
  refine ⟨fun pins s σ H Q I h => ?_⟩
  refine Subscript_ (thn (he.run pins s σ H _ I h) fun v s1 ⟨x, H1, I1, r1, q1⟩ => ?_)
  have hst : PO X (some (.UnaryOp .USub (.Constant (.int 1) k p1) p2)) (tPart (tUn (rU fun i => .int (-i)) (tC (.int 1)))) := po_some (pe_un un_neg pe_int)
  refine wpAny_Slice (thn (po_none.run pins s1 σ H1 (fun o H2 => o = none ∧ H2 = H1) I1 ⟨rfl, rfl⟩) fun vl s2 ⟨l, H2, I2, pl, el, e2⟩ => ?_)
  subst el e2
  refine thn (po_none.run pins s2 σ H2 (fun o H3 => o = none ∧ H3 = H2) I2 ⟨rfl, rfl⟩) fun vu s3 ⟨u, H3, I3, pu, eu, e3⟩ => ?_
  subst eu e3
  refine thn (hst.run pins s3 σ H3 (fun o H4 => o = some (-1) ∧ H4 = H3) I3 ⟨1, rfl, -1, rfl, rfl, rfl⟩) fun vs s4 ⟨o, H4, I4, ps, eo, e4⟩ => ?_
  subst eo e4
  have I5 : Inv X pins σ H4 { s4 with heap := s4.heap.push { cls := .type "slice", data := .fields #[vl, vu, vs] } } := I4.kept (t' := s4.toks) fun b ob q => Heap.get?_push_of_some _ q
  rcases q1 with ⟨a, xs, ex, hx, q⟩ | ⟨a, xs, ex, hx, q⟩
  · subst ex
    cases r1
    obtain ⟨its, r, ht, hz⟩ := I5.list hx
    have hlen := r.length
    show wpAny (model X.prog X.w) X.A (subscriptTail e (.Slice none none (some (.UnaryOp .USub (.Constant (.int 1) k p1) p2)) p3) (.ref a) (.ref s4.heap.objs.size)) (EP X pins σ Q) X.xe { s4 with heap := s4.heap.push { cls := .type "slice", data := .fields #[vl, vu, vs] } }
    refine tail_any (ops := [.ref a, .ref s4.heap.objs.size]) ht.isList.typeIs (PySem.slot_list_getitem.lookup) ?_ (by with_unfolding_all rfl)
    refine wpAny_getItem_list_slice ht.isList (Heap.IsSliceOf.new _ vl vu vs) pl pu ps (by decide) ?_ (by rw [List.size_toArray]; omega)
    rw [PySem.W.krv_pick]
    exact ⟨.ref _, _, I5.laid (t' := s4.toks) (o := .lst xs.reverse) (fun b ob q => Heap.get?_push_of_some _ q) (Nat.le_refl _) ⟨by rw [List.length_reverse]; exact hz, _, 0, r.reverse, Heap.get?_push_size _ rfl⟩, rfl, q _ (I5.hok.fresh (Nat.le_refl _))⟩
  · subst ex
    cases r1
    obtain ⟨its, r, ht, hz⟩ := I5.tuple hx
    have hlen := r.length
    show wpAny (model X.prog X.w) X.A (subscriptTail e (.Slice none none (some (.UnaryOp .USub (.Constant (.int 1) k p1) p2)) p3) (.ref a) (.ref s4.heap.objs.size)) (EP X pins σ Q) X.xe { s4 with heap := s4.heap.push { cls := .type "slice", data := .fields #[vl, vu, vs] } }
    refine tail_any (ops := [.ref a, .ref s4.heap.objs.size]) ht.typeIs (PyProof.Rows.slot_tuple_getitem.lookup) ?_ (by with_unfolding_all rfl)
    refine getItem_tuple_rev ht (Heap.IsSliceOf.new _ vl vu vs) pl pu ps ?_ (by rw [List.size_toArray]; omega)
    exact ⟨.ref _, _, I5.laid (t' := s4.toks) (o := .tup xs.reverse) (fun b ob q => Heap.get?_push_of_some _ q) (Nat.le_refl _) ⟨by rw [List.length_reverse]; exact hz, _, r.reverse, IsTup.new _ _⟩, rfl, q _ (I5.hok.fresh (Nat.le_refl _))⟩
end
def dRev (f : DD) : DE := fun env τ => bnd (f env τ) fun x τ1 => match x with
  | .list xs => some (.ow xs.reverse, τ1)
  | .tuple xs => some (.sh (.tuple xs.reverse), τ1)
  | _ => none
theorem jrev {X : Cx} {e : Expr} {k : Nat} {p1 p2 p3 pos : Pos} {f : DD} (he : JR X e f) : JV X (.Subscript e (.Slice none none (some (.UnaryOp .USub (.Constant (.int 1) k p1) p2)) p3) pos) (dRev f) :=
  PEi (pe_revA he) fun σ H Q ⟨g, Hs, env, τ, v, τ', r, hf, q⟩ => by
    obtain ⟨x, τ1, h1, h2⟩ := bnd_eq hf
    refine ⟨g, Hs, env, τ, x, τ1, r, h1, fun w Hs1 H1 u1 rw1 => ?_⟩
    split at h2
    · cases h2
      obtain ⟨p, xs, rfl, hp, hl, hr⟩ := rw1.list u1.le
      refine .inl ⟨p, xs, rfl, .of hp, fun l hl' => ?_⟩
      exact q _ Hs1 _ (u1.mk1 hl') ⟨l, _, rfl, u1.neT hl', u1.freeS hl', upd_same, by rw [List.length_reverse]; exact hl, hr.rev⟩ fun _ p' e => by cases e; exact u1.old hl'
    · cases h2
      obtain ⟨p, xs, rfl, hp, hl, hr⟩ := rw1.tuple
      refine .inr ⟨p, xs, rfl, .of (u1.le _ _ hp), fun l hl' => ?_⟩
      exact q _ (upd Hs1 l (.tup xs.reverse)) _ (u1.new hl') (.tup upd_same (by rw [List.length_reverse]; exact hl) (hr.rev.to (same_upd (u1.freeS hl')))) fun z => by cases z
    · cases h2
end Pv
namespace Pv
open PySem L2 PySem.Spec PyProof.Rows
open AutoSeq1 (wpAny_loadPart')
set_option maxHeartbeats 1000000 in
theorem meets_enum1 {v : Value} {o : Obj} {H : Heap → Prop} (B : Begins v o H) :
    Meets (Builtin.«enumerate.__new__» ⟨[.type "enumerate", v], []⟩) (fun _ R s => H s.heap ∧
      R (.ok (.ret (.ref (s.heap.push o).objs.size))) { s with heap := (s.heap.push o).push { cls := .type "enumerate", data := .fields #[.none, .bool false, .ref s.heap.objs.size, rawInt 0, .none, .none] } }) :=
  .of_wp fun prog w A R s h => by
    obtain ⟨hp, g, d, tk, os⟩ := s; obtain ⟨h1, h⟩ := h
    have hsub := sub_enumerate
    have q1 : ∀ {A' : Around} {E : Value → Shared → Prop} {Q : Value → Shared → Prop}, Q (.ref hp.objs.size) ⟨hp.push o, g, d, tk, os⟩ → wpAny (model prog w) A' (pyIter v) Q E ⟨hp, g, d, tk, os⟩ :=
      fun q => B.iter prog w _ _ ⟨hp, g, d, tk, os⟩ _ h1 q
    wp_walk using q1
    refine wpAny_stack_any fun st => wpAny_pure ?_
    split
    · rename_i c _ _ _ _ _
      cases (c == Value.type "enumerate")
      · wp_walk using q1
        exact ⟨_, rfl, h⟩
      · wp_walk using q1
        exact ⟨_, rfl, h⟩
    · wp_walk using q1
      exact ⟨_, rfl, h⟩
section
variable {prog : Program} {w : World} {A : Around} {E : Value → Shared → Prop} {s : Shared}
theorem enum1_begins {v : Value} {o : Obj} {H : Heap → Prop} {Q : Value → Shared → Prop} (B : Begins v o H) (h1 : H s.heap)
    (h : ∀ h', IsEnum h' (s.heap.objs.size + 1) s.heap.objs.size 0 .none → h'.get? s.heap.objs.size = some o → (∀ b o, s.heap.get? b = some o → h'.get? b = some o) → Q (.ref (s.heap.objs.size + 1)) { s with heap := h' }) :
    wpAny (model prog w) A (call (.type "enumerate") [v]) Q E s := by
  refine callType_new F.called_enumerate (by decide) (F.typeCall_enumerate_1 _) (F.newCall_enumerate_1 _) (fun obj => F.args_object_init_2 obj _) F.entry_enumerate_new (meets_enum1 B) ⟨h1, ?_⟩
  have hz : (s.heap.push o).objs.size = s.heap.objs.size + 1 := Heap.size_push ..
  show _ ∧ _
  rw [hz]
  have he : IsEnum ((s.heap.push o).push { cls := .type "enumerate", data := .fields #[.none, .bool false, .ref s.heap.objs.size, rawInt 0, .none, .none] }) (s.heap.objs.size + 1) s.heap.objs.size 0 .none := by
    have := Heap.get?_push_size (s.heap.push o) (o := { cls := .type "enumerate", data := .fields #[.none, .bool false, .ref s.heap.objs.size, rawInt 0, .none, .none] }) rfl
    rw [hz] at this; exact this
  exact ⟨⟨_, he, rfl⟩, h _ he (Heap.get?_push_of_some _ (Heap.get?_push_size _ B.free)) fun b o x => Heap.get?_push_of_some _ (Heap.get?_push_of_some _ x)⟩
end
def IteB (K : PySem.W.Frag) (ba : Bool) (a : Addr) : It :=
  ⟨fun i H => ∃ (xs : List V) (x : V), SqB K ba H a xs ∧ xs[i]? = some x,
    fun i H v H' => ∃ T x, v = .ref T ∧ H T = none ∧ H' = upd H T (.tup [.int (i : Nat), x]) ∧ ∀ xs, SqB K ba H a xs → xs[i]? = some x,
    fun i H => ∃ xs : List V, SqB K ba H a xs ∧ i = xs.length⟩
theorem turn_enumB {P : Program} {w : World} {K : PySem.W.Frag} {elts : List Expr} {kk : Nat} {tpos : Pos} {ba : Bool} {a e it : Addr} (na : a ≠ it) (nea : e ≠ a) :
    Turn P w K (.Tuple elts kk tpos) (IteB K ba a) [e, it] e (fun i h => (∃ old, IsEnum h e it ((i : Nat) : Int) old) ∧ ItB ba h it a i ∧ e ≠ it) where
  mem := by simp
  obj := fun i h st b hb => by
    obtain ⟨⟨old, he⟩, hi, _⟩ := st
    have e' : b = e ∨ b = it := by simpa using hb
    rcases e' with rfl | rfl
    · exact ⟨_, he, fun v q => nomatch q⟩
    · exact hi.obj
  keep := fun i h h' st k => let ⟨⟨old, he⟩, hi, hne⟩ := st; ⟨⟨old, k e (by simp) _ he⟩, hi.at fun o q => k it (by simp) o q, hne⟩
  item := by
    intro X hP hw hK hc i pins s σ H E I hf st hg
    subst hP hw hK
    obtain ⟨⟨old, he⟩, hit, hne⟩ := st
    obtain ⟨xs, x, hq, hx⟩ := hg
    obtain ⟨its, rv, p, la⟩ := hq.arr I
    obtain ⟨u, hu, ru⟩ := rv.get hx
    have hel : e < s.heap.objs.size := Heap.lt_size he
    have hil : it < s.heap.objs.size := by obtain ⟨_, q, _⟩ := hit.obj; exact Heap.lt_size q
    have li : i < its.toArray.size := by
      have := (List.getElem?_eq_some_iff.mp hu).1
      simpa using this
    refine wpAny_pyNext_enum_itemC (drawsB (A := X.A.in1) (I.ok.hd hc) ba it a na its.toArray) he ⟨hit, p⟩ li hne (by simp; exact ⟨hne, nea⟩) fun v1 h' tk e1 ho d1 hT hsz hk => ?_
    have ev1 : v1 = u := by
      have : its[i]? = some v1 := by simpa using e1
      rw [hu] at this; cases this; rfl
    subst ev1
    refine ⟨_, rfl, wpAny_letOwnedTupleGo_enum (s := { s with heap := h', toks := tk + 1 }) ho fun h'' he' sb => ?_⟩
    have hT2 : h''.get? s.heap.objs.size = some { cls := .type "tuple", data := .seq #[.int i tk, v1] } := (sb.2 _ (Nat.ne_of_gt hel)).trans hT
    have new : ObjOk X.prog X.w (upd H s.heap.objs.size (.tup [.int (i : Nat), x])) h'' s.heap.objs.size (.tup [.int (i : Nat), x]) :=
      ⟨by show 2 ≤ sizeLine; decide, [.int i tk, v1], .cons ⟨_, rfl⟩ (.cons ru .nil), ⟨_, hT2, rfl, _, rfl⟩⟩
    have I1 : Inv X pins σ (upd H s.heap.objs.size (.tup [.int (i : Nat), x])) { s with heap := h'', toks := tk + 1 } :=
      I.turnedNew (t' := tk + 1) (ch := [e, it]) (fun b ob hb q => (sb.2 b (fun z => hb (by simp [z]))).trans (hk b ob (fun z => hb (by simp [z])) (fun z => hb (by simp [z])) q)) hf (Nat.le_refl _) new
    refine ⟨.ref s.heap.objs.size, _, I1, rfl, ⟨_, x, rfl, I.hok.fresh (Nat.le_refl _), rfl, fun ys hy => by rw [hy.inj I hq]; exact hx⟩, ⟨⟨v1, ?_⟩, d1.1.at fun o q => (sb.2 it (Ne.symm hne)).trans q, hne⟩, fun b hb => ?_⟩
    · have e1 : ((i + 1 : Nat) : Int) = (i : Int) + 1 := by omega
      rw [e1]; exact he'
    · have hb' : b < s.heap.objs.size := by
        have e' : b = e ∨ b = it := by simpa using hb
        rcases e' with z | z
        · rw [z]; exact hel
        · rw [z]; exact hil
      rw [upd_ne (Nat.ne_of_lt hb')]
      exact (hf b hb).1
  done := by
    intro X hP hw hK hc i pins s σ H E I hf st hg
    subst hP hw hK
    obtain ⟨⟨old, he⟩, hit, hne⟩ := st
    obtain ⟨xs, hq, hx⟩ := hg
    obtain ⟨its, rv, p, _⟩ := hq.arr I
    obtain ⟨f0, f1, f2, f3, f4, f5⟩ := hf it (by simp)
    have hl := rv.length
    have hi : i = its.toArray.size := by rw [List.size_toArray]; omega
    subst hi
    exact wpAny_pyNext_enum_endD (drawsB (A := X.A.in1) (I.ok.hd hc) ba it a na its.toArray) he ⟨hit, p⟩ fun h' eb => ⟨rfl, I.turned (t' := s.toks) (fun b o hb q => eb b o hb q) f0 f1 f3 f4 f5⟩
  self := fun A i s Q E st h => let ⟨⟨_, he⟩, _⟩ := st; wpAny_pyIter_enum he h
theorem walk_enumB {K : PySem.W.Frag} {ba : Bool} {a : Addr} {xs : List V} : Walk (IteB K ba a) xs.length (fun H => SqB K ba H a xs) (YPair (fun i => some (.int (i : Nat))) (fun i => xs[i]?)) := by
  refine ⟨fun i _ hi q => ⟨xs, xs[i], q, List.getElem?_eq_getElem hi⟩, fun _ q => ⟨xs, q, rfl⟩, fun i H v H' _ q y => ?_⟩
  obtain ⟨T, x, h1, h2, h3, h4⟩ := y
  exact ⟨T, .int (i : Nat), x, h1, h2, h3, rfl, h4 xs q⟩
def iEnumB (K : PySem.W.Frag) (ta : TA) : TI := fun σ H R => ta σ H fun vs H1 => ∃ a ba xs, vs = [.ref a] ∧ SqB K ba H1 a xs ∧ R (IteB K ba a) H1
theorem pi_enumB {X : Cx} {e : Expr} {ta : TA} {p pos tpos : Pos} {elts : List Expr} {kk : Nat} (hg : Gl X "enumerate") (hm : X.mg "enumerate" = none) (ha : PA X [e] ta) (hs : starEach [e] X.env = (false, eval e X.env) :: starEach [] X.env := by rfl) (hpl : (backTo pos (starEach [] X.env)).any (·.1) = false := by rfl) :
    PI X (.Tuple elts kk tpos) (.Call (.Name "enumerate" p) [e] [] pos) (iEnumB X.K ta) := by
  refine ⟨fun pins s σ H R I h => ?_⟩
  refine Call_ (ld_blt I hg hm boot_enumerate (PyProof.Rows.callWith_type1 (thn (ha.run pos pins s σ H _ I h) fun us s1 ⟨vs, H1, I1, r1, q1⟩ => ?_) hs hpl))
  obtain ⟨a, ba, xs, ex, hq, q⟩ := q1
  subst ex
  cases r1 with
  | cons r rr =>
    cases rr
    cases r
    obtain ⟨its, rv, p', la⟩ := hq.arr I1
    refine enum1_begins (beginsB ba a its.toArray) p' fun h' he hit hk => wpAny_pyIter_enum he ?_
    have I2 : Inv X pins σ H1 { s1 with heap := h' } := I1.kept (t' := s1.toks) hk
    refine ⟨s1.heap.objs.size + 1, [s1.heap.objs.size + 1, s1.heap.objs.size], _, _, H1, rfl, I2, turn_enumB (Nat.ne_of_lt la) (Nat.ne_of_gt (Nat.lt_succ_of_lt la)), ⟨⟨.none, he⟩, .start hit, Nat.succ_ne_self _⟩, fun b hb => ?_, q⟩
    have e' : b = s1.heap.objs.size + 1 ∨ b = s1.heap.objs.size := by simpa using hb
    have hle : s1.heap.objs.size ≤ b := by
      rcases e' with z | z
      · rw [z]; exact Nat.le_add_right _ _
      · rw [z]; exact Nat.le_refl _
    exact I1.fpOk hle (I1.hok.fresh hle)
def enumD : Nat → List D → List D
  | _, [] => []
  | n, x :: xs => .tuple [.int (n : Int), x] :: enumD (n + 1) xs
theorem enumD_len : ∀ (xs : List D) (n : Nat), (enumD n xs).length = xs.length
  | [], _ => rfl
  | x :: xs, n => by rw [enumD, List.length_cons, List.length_cons, enumD_len xs]
theorem enumD_get : ∀ {xs : List D} {n i : Nat} {d : D}, (enumD n xs)[i]? = some d → ∃ x, xs[i]? = some x ∧ d = .tuple [.int ((n + i : Nat) : Int), x]
  | [], _, _, _, h => by simp [enumD] at h
  | x :: xs, n, 0, d, h => by
    have h : some (PyData.tuple [.int (n : Int), x]) = some d := h
    cases h
    exact ⟨x, rfl, rfl⟩
  | x :: xs, n, i + 1, d, h => by
    have h : (enumD (n + 1) xs)[i]? = some d := h
    obtain ⟨y, h1, h2⟩ := enumD_get h
    exact ⟨y, by simpa using h1, by rw [h2, show n + 1 + i = n + (i + 1) by omega]⟩
def dEnum (f : DD) : DI := fun env τ => bnd (f env τ) fun x τ1 => match itemsD x with
  | some xs => some (enumD 0 xs, τ1)
  | none => none
section
variable {X : Cx} {e : Expr} {p pos tpos : Pos} {elts : List Expr} {kk : Nat} {f : DD}
theorem ji_enum (hm : X.mg "enumerate" = none) (h1 : JD X e f) (hg : Gl X "enumerate" := by rfl) (hs : starEach [e] X.env = (false, eval e X.env) :: starEach [] X.env := by rfl) (hpl : (backTo pos (starEach [] X.env)).any (·.1) = false := by rfl) :
    JI X (.Tuple elts kk tpos) (.Call (.Name "enumerate" p) [e] [] pos) (dEnum f) :=
  PIi (pi_enumB hg hm (ja_cons h1 ja_nil hs) hs hpl) fun σ H R ⟨g, Hs, env, τ, ds, τ', r, hf, q⟩ => by
    obtain ⟨x, τ1, h1, h2⟩ := bnd_eq hf
    split at h2
    · rename_i xs hx
      cases h2
      refine ⟨g, Hs, env, τ, [x], τ', r, by show bnd (f env τ) _ = _; rw [h1]; rfl, fun ws Hs1 H1 u1 rs => ?_⟩
      cases rs with
      | cons a1 b1 =>
        cases b1
        obtain ⟨a, ba, vs, rfl, rx, lx, sx⟩ := rp_sq (K := X.K) u1.le a1 hx
        refine ⟨a, ba, vs, rfl, sx H1 u1.le, q _ Hs1 H1 u1 (by rw [enumD_len, ← rx.len]; exact lx) ?_⟩
        refine ⟨fun H => SqB X.K ba H a vs, YPair (fun i => some (.int (i : Nat))) (fun i => vs[i]?), by rw [enumD_len, ← rx.len]; exact walk_enumB, fun Hs2 H2 τ2 f2 => sx _ (f2.s.trans f2.le), fun Hs2 H2 τ2 i v H3 d f2 yy hd => ?_⟩
        obtain ⟨T, v1, v2, rfl, hT, rfl, e1, e2⟩ := yy
        have e1 : some (V.int (i : Nat)) = some v1 := e1
        have e2 : vs[i]? = some v2 := e2
        cases e1
        obtain ⟨d2, g2, rfl⟩ := enumD_get hd
        obtain ⟨w2, e2', r2⟩ := rx.get g2
        rw [e2] at e2'; cases e2'
        rw [Nat.zero_add]
        exact new_pair f2.le f2.tp hT (.int _) (r2.to f2.s)
    · cases h2
theorem jc_enum (hm : X.mg "enumerate" = none) (h1 : JR X e f) (hg : Gl X "enumerate" := by rfl) (hs : starEach [e] X.env = (false, eval e X.env) :: starEach [] X.env := by rfl) (hpl : (backTo pos (starEach [] X.env)).any (·.1) = false := by rfl) :
    JC X (.Tuple elts kk tpos) (.Call (.Name "enumerate" p) [e] [] pos) (dEnum f) :=
  PIi (pi_enumB hg hm (jr_cons h1 jr_nil hs) hs hpl) fun σ H R ⟨g, Hs, env, τ, ds, τ', r, hf, q⟩ => by
    obtain ⟨x, τ1, h1, h2⟩ := bnd_eq hf
    split at h2
    · rename_i xs hx
      cases h2
      refine ⟨g, Hs, env, τ, [x], τ', r, by show bnd (f env τ) _ = _; rw [h1]; rfl, fun ws Hs1 H1 u1 rs => ?_⟩
      cases rs with
      | cons a1 b1 =>
        cases b1
        obtain ⟨a, ba, vs, rfl, rx, lx, sx⟩ := rdb_sq (K := X.K) (τ := τ') a1 hx
        have u0 := Up.refl u1.le u1.tp
        refine ⟨a, ba, vs, rfl, sx _ _ _ u1.le u0, q _ Hs1 H1 u1 (by rw [enumD_len, ← rx.len]; exact lx) ?_⟩
        refine ⟨fun H => SqB X.K ba H a vs, YPair (fun i => some (.int (i : Nat))) (fun i => vs[i]?), by rw [enumD_len, ← rx.len]; exact walk_enumB, fun Hs2 H2 τ2 f2 => sx _ _ _ u1.le f2, fun Hs2 H2 τ2 i v H3 d f2 yy hd => ?_⟩
        obtain ⟨T, v1, v2, rfl, hT, rfl, e1, e2⟩ := yy
        have e1 : some (V.int (i : Nat)) = some v1 := e1
        have e2 : vs[i]? = some v2 := e2
        cases e1
        obtain ⟨d2, g2, rfl⟩ := enumD_get hd
        obtain ⟨w2, e2', r2⟩ := rx.get g2
        rw [e2] at e2'; cases e2'
        rw [Nat.zero_add]
        exact new_pair f2.le f2.tp hT (.int _) (r2.to f2.s)
    · cases h2
end
end Pv
namespace Pv
open PySem L2 PySem.Spec PyProof.Rows
def comp2L (b : DG) (c : DT) (it1 : DI) (vs1 : List Nat) (b1 : DG) (c1 : DT) (e : DD) : List D → Ev → Tp → Option (List D × Tp)
  | [], _, τ => some ([], τ)
  | x :: xs, env, τ => match b x env with
    | none => none
    | some env1 => bnd (c env1 τ) fun k τ1 => if k = true then bnd (it1 env1 τ1) fun ds1 τ2 => bnd (compL b1 c1 e ds1 (wipeE env1 vs1) τ2) fun ys τ3 => bnd (comp2L b c it1 vs1 b1 c1 e xs env τ3) fun zs τ4 => if ds1.length * (xs.length + 1) ≤ 1000000 then some (ys ++ zs, τ4) else none
      else comp2L b c it1 vs1 b1 c1 e xs env τ1
def dComp2 (vs vs1 : List Nat) (it : DI) (b : DG) (c : DT) (it1 : DI) (b1 : DG) (c1 : DT) (e : DD) : DE := fun env τ => bnd (it env τ) fun ds τ1 => bnd (comp2L b c it1 vs1 b1 c1 e ds (wipeE env vs) τ1) fun ys τ2 => if ys.length ≤ 1000000 then some (.ow ys, τ2) else none
theorem Rel.atg {g : G} {Hs H : Hp} {σ : Sl} {env : Ev} {τ : Tp} (r : Rel g Hs H σ env τ) {A : Addr} {o : HO} (hA : H A = some o) (hn : Hs A = none) (ha : ∀ (j : Nat) (u : Vl), env[j]? = some (some u) → u.own = true → σ[j]? ≠ some (some (.ref A))) : Rel {g with H0 := upd g.H0 A o} Hs H σ env τ where
  le := r.le
  tp := ⟨r.tp.h, r.tp.n, r.tp.s, r.tp.l⟩
  ls := r.ls
  bs := fun b ob hb hT => by
    have hb : upd g.H0 A o b = some ob := hb
    by_cases e : b = A
    · subst e; rw [upd_same] at hb; cases hb; exact hA
    · rw [upd_ne e] at hb; exact r.bs b ob hb hT
  fr := fun b ob hb h0 => by
    have e : b ≠ A := fun e => by subst e; rw [hn] at hb; cases hb
    exact (upd_ne e).trans (r.fr b ob hb h0)
  sl := r.sl
  ow := fun i v p hv ho hp => by
    have e : p ≠ A := fun e => by subst e; exact ha i v hv ho hp
    exact (upd_ne e).trans (r.ow i v p hv ho hp)
  ap := r.ap
  ln := r.ln
theorem Rel.putg {g : G} {Hs H : Hp} {σ : Sl} {env : Ev} {τ : Tp} {h0 : Hp} {A : Addr} {o o' : HO} (r : Rel {g with H0 := upd h0 A o} Hs H σ env τ) (hn : Hs A = none) (nT : A ≠ g.aT) : Rel {g with H0 := upd h0 A o'} Hs (upd H A o') σ env τ where
  le := fun b ob hb => by
    have e : b ≠ A := fun e => by subst e; rw [hn] at hb; cases hb
    rw [upd_ne e]; exact r.le b ob hb
  tp := ⟨by rw [upd_ne nT.symm]; exact r.tp.h, r.tp.n, r.tp.s, r.tp.l⟩
  ls := r.ls
  bs := fun b ob hb hT => by
    have hb : upd h0 A o' b = some ob := hb
    by_cases e : b = A
    · subst e; rw [upd_same] at hb ⊢; exact hb
    · rw [upd_ne e] at hb ⊢; exact r.bs b ob ((upd_ne e).trans hb) hT
  fr := fun b ob hb hh => by
    have e : b ≠ A := fun e => by subst e; rw [hn] at hb; cases hb
    exact (upd_ne e).trans ((upd_ne e).symm.trans (r.fr b ob hb hh))
  sl := fun i v hv => by
    obtain ⟨z, z1, z2⟩ := r.sl i v hv
    refine ⟨z, z1, ?_⟩
    have key : ∀ p', z = .ref p' → v.own = true → p' ≠ A := fun p' e1 ho' e2 => by
      subst e1; subst e2
      have h : upd h0 p' o p' = none := r.ow i v p' hv ho' z1
      rw [upd_same] at h; cases h
    cases v with
    | sh d => exact z2
    | ow ds' =>
      obtain ⟨p', xs', e1, n1, n2, n3, n4, n5⟩ := z2
      exact ⟨p', xs', e1, n1, n2, by rw [upd_ne (key p' e1 rfl)]; exact n3, n4, n5⟩
    | dk ds' =>
      obtain ⟨p', xs', e1, n1, n2, n3, n4⟩ := z2
      exact ⟨p', xs', e1, n1, n2, by rw [upd_ne (key p' e1 rfl)]; exact n3, n4⟩
    | dt ds' =>
      obtain ⟨p', xs', e1, n1, n2, n3, n4⟩ := z2
      exact ⟨p', xs', e1, n1, n2, by rw [upd_ne (key p' e1 rfl)]; exact n3, n4⟩
    | tp => exact z2
  ow := fun i v p hv ho hp => by
    have h : upd h0 A o p = none := r.ow i v p hv ho hp
    have e : p ≠ A := fun e => by subst e; rw [upd_same] at h; cases h
    rw [upd_ne e] at h; exact (upd_ne e).trans h
  ap := r.ap
  ln := r.ln
theorem upg {g : G} {h0 : Hp} {Hs H Hs' H' : Hp} {τ' : Tp} (u : Up {g with H0 := h0} Hs H Hs' H' τ') : Up g Hs H Hs' H' τ' := ⟨u.s, u.h, u.f, u.le, ⟨u.tp.h, u.tp.n, u.tp.s, u.tp.l⟩⟩
theorem gup {g : G} (h0 : Hp) {Hs H Hs' H' : Hp} {τ' : Tp} (u : Up g Hs H Hs' H' τ') : Up {g with H0 := h0} Hs H Hs' H' τ' := ⟨u.s, u.h, u.f, u.le, ⟨u.tp.h, u.tp.n, u.tp.s, u.tp.l⟩⟩
theorem lc2_run {vs vs1 is is1 : List Nat} {it it1 : DI} {b b1 : DG} {c c1 : DT} {e : DD} (his : ∀ i ∈ is, i ∈ vs) (his1 : ∀ i ∈ is1, i ∈ vs1) : ∀ σ H Q, tV (dComp2 vs vs1 it b c it1 b1 c1 e) σ H Q → tLc2 (tIE it) (tG is b) (tB' c) (tIS it1) (tG is1 b1) (tB' c1) (tD e) vs vs1 σ H Q := fun σ H Q ⟨g, Hs, env, τ, v, τ', r, hf, q⟩ => by
  obtain ⟨ds, τ1, h1, h2⟩ := bnd_eq hf
  obtain ⟨res, τ2, h3, h4⟩ := bnd_eq h2
  split at h4
  case isFalse => cases h4
  rename_i hbig
  cases h4
  refine ⟨g, Hs, env, τ, ds, τ1, r, h1, fun J Hs1 H1 u1 hlen wk A hA => ?_⟩
  obtain ⟨Gd, Y, w, wG, wY⟩ := wk
  have nT := u1.neT hA
  have hA1 := u1.freeS hA
  have r1 := (r.up u1).wipe vs
  have uz : Up g Hs1 H1 Hs1 H1 τ1 := .refl u1.le u1.tp
  have stay : ∀ {Hs2 H2 Hs3 H3 : Hp} {τ3 : Tp} {o : HO}, Up g Hs2 H2 Hs3 H3 τ3 → H2 A = some o → Hs2 A = none → H3 A = some o ∧ Hs3 A = none := fun {Hs2 H2 Hs3 H3 τ3 o} u h hn => ⟨u.h _ _ h nT, by
    cases z : Hs3 A with
    | none => rfl
    | some o => rw [u.f A o z hn] at h; cases h⟩
  refine ⟨fun i m H' => m + i = ds.length ∧ ∃ Hs' acc ys τi rest, Up g Hs1 H1 Hs' H' τi ∧ H' A = some (.lst acc) ∧ Hs' A = none ∧ Rps Hs' acc ys ∧ comp2L b c it1 vs1 b1 c1 e (ds.drop i) (wipeE env vs) τi = some (rest, τ') ∧ ys ++ rest = res,
    ⟨ds.length, rfl, Hs1, [], [], τ1, res, uz.mk1 hA, upd_same, hA1, .nil, by rw [List.drop_zero]; exact h3, rfl⟩, ?_⟩
  rintro i m H2 ⟨hm, Hs2, acc, ys, τi, rest, u2, hacc, hA2, hr, hc, hres⟩
  rcases Nat.lt_or_ge i ds.length with hi | hi
  case inr =>
    have e : i = ds.length := by omega
    subst e
    rw [List.drop_length] at hc
    cases hc
    rw [List.append_nil] at hres
    subst hres
    refine .inl ⟨w.stops H2 (wG Hs2 H2 _ u2), q _ Hs2 H2 (u1.trans u2) ⟨A, acc, rfl, nT, hA2, hacc, ?_, hr⟩ fun _ p ep => by cases ep; exact u1.old hA⟩
    rw [hr.len, line_eq]; omega
  case inl =>
    refine .inr ⟨w.goes i H2 hi (wG Hs2 H2 _ u2), fun H' => ∃ Hs' acc ys τi rest, Up g Hs1 H1 Hs' H' τi ∧ H' A = some (.lst acc) ∧ Hs' A = none ∧ Rps Hs' acc ys ∧ comp2L b c it1 vs1 b1 c1 e (ds.drop (i + 1)) (wipeE env vs) τi = some (rest, τ') ∧ ys ++ rest = res, fun H' h' => ⟨m - 1, by omega, by omega, h'⟩, fun x H3 hy => ?_⟩
    have hy := w.yields i H2 x H3 hi (wG Hs2 H2 _ u2) hy
    have hd : ds[i]? = some (ds[i]'hi) := List.getElem?_eq_getElem hi
    generalize ds[i]'hi = d at hd
    obtain ⟨Hs3, u3, rx⟩ := wY Hs2 H2 τi i x H3 d u2 hy hd
    obtain ⟨hacc3, hA3⟩ := stay u3 hacc hA2
    rw [List.drop_eq_getElem_cons hi, show ds[i] = d from Option.some.inj ((List.getElem?_eq_getElem hi).symm.trans hd)] at hc
    have hc' : (match b d (wipeE env vs) with
      | none => none
      | some env1 => bnd (c env1 τi) fun k τ1 => if k = true then bnd (it1 env1 τ1) fun ds1 τ2 => bnd (compL b1 c1 e ds1 (wipeE env1 vs1) τ2) fun ys τ3 => bnd (comp2L b c it1 vs1 b1 c1 e (ds.drop (i + 1)) (wipeE env vs) τ3) fun zs τ4 => if ds1.length * ((ds.drop (i + 1)).length + 1) ≤ 1000000 then some (ys ++ zs, τ4) else none
        else comp2L b c it1 vs1 b1 c1 e (ds.drop (i + 1)) (wipeE env vs) τ1) = some (rest, τ') := hc
    cases hb : b d (wipeE env vs) with
    | none => rw [hb] at hc'; cases hc'
    | some env1 =>
      rw [hb] at hc'
      obtain ⟨k, τ4, h5, h6⟩ := bnd_eq hc'
      have r3 : Rel {g with H0 := upd g.H0 A (.lst acc)} Hs3 H3 (wipe σ vs) (wipeE env vs) τi := ((r1.up u2).up u3).atg hacc3 hA3 fun j u e ho => r1.apart hA j u e ho
      refine ⟨{g with H0 := upd g.H0 A (.lst acc)}, Hs3, wipeE env vs, τi, d, env1, r3, rx, hb, fun σ2 r4 t => ⟨?_, {g with H0 := upd g.H0 A (.lst acc)}, Hs3, env1, τi, k, τ4, r4, h5, fun Hs4 H4 u4 => ?_⟩⟩
      · rw [t.wipe his, wipe_wipe]
      · obtain ⟨hacc4, hA4⟩ := stay (upg u4) hacc3 hA3
        cases k with
        | false =>
          have h6 : comp2L b c it1 vs1 b1 c1 e (ds.drop (i + 1)) (wipeE env vs) τ4 = some (rest, τ') := h6
          exact iteF ⟨Hs4, acc, ys, τ4, rest, (u2.trans u3).trans (upg u4), hacc4, hA4, (hr.to u3.s).to u4.s, h6, hres⟩
        | true =>
          obtain ⟨ds1, τ5, h7, h8⟩ := bnd_eq h6
          obtain ⟨zs, τ6, h9, h10⟩ := bnd_eq h8
          obtain ⟨rest2, τ7, h11, h12⟩ := bnd_eq h10
          split at h12
          case isFalse => cases h12
          rename_i hsz
          cases h12
          refine iteT ⟨{g with H0 := upd g.H0 A (.lst acc)}, Hs4, env1, τ4, ds1, τ5, r4.up u4, h7, fun J1 Hs5 H5 u5 hlen1 wk1 => ?_⟩
          obtain ⟨Gd1, Y1, w1, wG1, wY1⟩ := wk1
          obtain ⟨hacc5, hA5⟩ := stay (upg u5) hacc4 hA4
          have u25 : Up g Hs1 H1 Hs5 H5 τ5 := ((u2.trans u3).trans (upg u4)).trans (upg u5)
          have r5 : Rel {g with H0 := upd g.H0 A (.lst acc)} Hs5 H5 (wipe σ2 vs1) (wipeE env1 vs1) τ5 := ((r4.up u4).up u5).wipe vs1
          refine ⟨fun j kk H' => kk + j = ds1.length ∧ ∃ Hs' acc ys2 τj rest3, Up g Hs1 H1 Hs' H' τj ∧ Same Hs5 Hs' ∧ Rel {g with H0 := upd g.H0 A (.lst acc)} Hs' H' (wipe σ2 vs1) (wipeE env1 vs1) τj ∧ H' A = some (.lst acc) ∧ Hs' A = none ∧ Rps Hs' acc ys2 ∧ compL b1 c1 e (ds1.drop j) (wipeE env1 vs1) τj = some (rest3, τ6) ∧ ys2 ++ rest3 = ys ++ zs,
            ⟨ds1.length, rfl, Hs5, acc, ys, τ5, zs, u25, .refl _, r5, hacc5, hA5, ((hr.to u3.s).to u4.s).to u5.s, by rw [List.drop_zero]; exact h9, rfl⟩, ?_⟩
          rintro j kk H6 ⟨hkk, Hs6, acc6, ys6, τ8, rest3, u6, s6, r6, hacc6, hA6, hr6, hc6, hres6⟩
          have fw6 : Fw {g with H0 := upd g.H0 A (.lst acc)} Hs5 Hs6 H6 τ8 := ⟨s6, u6.le, ⟨u6.tp.h, u6.tp.n, u6.tp.s, u6.tp.l⟩⟩
          rcases Nat.lt_or_ge j ds1.length with hj | hj
          case inr =>
            have ej : j = ds1.length := by omega
            subst ej
            rw [List.drop_length] at hc6
            cases hc6
            rw [List.append_nil] at hres6
            exact .inl ⟨w1.stops H6 (wG1 Hs6 H6 _ fw6), Hs6, acc6, ys6, τ6, rest2, u6, hacc6, hA6, hr6, h11, by rw [hres6, List.append_assoc]; exact hres⟩
          case inl =>
            refine .inr ⟨w1.goes j H6 hj (wG1 Hs6 H6 _ fw6), fun H' => ∃ Hs' acc ys2 τj rest3, Up g Hs1 H1 Hs' H' τj ∧ Same Hs5 Hs' ∧ Rel {g with H0 := upd g.H0 A (.lst acc)} Hs' H' (wipe σ2 vs1) (wipeE env1 vs1) τj ∧ H' A = some (.lst acc) ∧ Hs' A = none ∧ Rps Hs' acc ys2 ∧ compL b1 c1 e (ds1.drop (j + 1)) (wipeE env1 vs1) τj = some (rest3, τ6) ∧ ys2 ++ rest3 = ys ++ zs, fun H' h' => ⟨kk - 1, by omega, by omega, h'⟩, fun x1 H7 hy1 => ?_⟩
            have hy1 := w1.yields j H6 x1 H7 hj (wG1 Hs6 H6 _ fw6) hy1
            have hd1 : ds1[j]? = some (ds1[j]'hj) := List.getElem?_eq_getElem hj
            generalize ds1[j]'hj = d1 at hd1
            obtain ⟨Hs7, u7, rx1⟩ := wY1 Hs6 H6 τ8 j x1 H7 d1 fw6 hy1 hd1
            have u7 : Up g Hs6 H6 Hs7 H7 τ8 := upg u7
            obtain ⟨hacc7, hA7⟩ := stay u7 hacc6 hA6
            rw [List.drop_eq_getElem_cons hj, show ds1[j] = d1 from Option.some.inj ((List.getElem?_eq_getElem hj).symm.trans hd1)] at hc6
            have hc7 : (match b1 d1 (wipeE env1 vs1) with
              | none => none
              | some env2 => bnd (c1 env2 τ8) fun k τ1 => if k = true then bnd (e env2 τ1) fun y τ2 => bnd (compL b1 c1 e (ds1.drop (j + 1)) (wipeE env1 vs1) τ2) fun ys τ3 => some (y :: ys, τ3) else compL b1 c1 e (ds1.drop (j + 1)) (wipeE env1 vs1) τ1) = some (rest3, τ6) := hc6
            cases hb1 : b1 d1 (wipeE env1 vs1) with
            | none => rw [hb1] at hc7; cases hc7
            | some env2 =>
              rw [hb1] at hc7
              obtain ⟨k1, τ9, h13, h14⟩ := bnd_eq hc7
              refine ⟨{g with H0 := upd g.H0 A (.lst acc6)}, Hs7, wipeE env1 vs1, τ8, d1, env2, r6.up (gup _ u7), rx1, hb1, fun σ3 r7 t1 => ⟨?_, {g with H0 := upd g.H0 A (.lst acc6)}, Hs7, env2, τ8, k1, τ9, r7, h13, fun Hs8 H8 u8 => ?_⟩⟩
              · rw [t1.wipe his1, wipe_wipe]
              · have u8 : Up g Hs7 H7 Hs8 H8 τ9 := upg u8
                obtain ⟨hacc8, hA8⟩ := stay u8 hacc7 hA7
                cases k1 with
                | false =>
                  have h14 : compL b1 c1 e (ds1.drop (j + 1)) (wipeE env1 vs1) τ9 = some (rest3, τ6) := h14
                  exact iteF ⟨Hs8, acc6, ys6, τ9, rest3, (u6.trans u7).trans u8, (s6.trans u7.s).trans u8.s, (r6.up (gup _ u7)).up (gup _ u8), hacc8, hA8, (hr6.to u7.s).to u8.s, h14, hres6⟩
                | true =>
                  obtain ⟨y, τ10, h15, h16⟩ := bnd_eq h14
                  obtain ⟨ys', τ11, h17, h18⟩ := bnd_eq h16
                  cases h18
                  refine iteT ⟨{g with H0 := upd g.H0 A (.lst acc6)}, Hs8, env2, τ9, y, τ10, r7.up (gup _ u8), h15, fun wy Hs9 H9 u9 ry => ?_⟩
                  have u9 : Up g Hs8 H8 Hs9 H9 τ10 := upg u9
                  obtain ⟨hacc9, hA9⟩ := stay u9 hacc8 hA8
                  have ut := ((u6.trans u7).trans u8).trans u9
                  have hpr := hr6.len
                  have hlen6 : acc6.length < sizeLine := by
                    have := congrArg List.length hres6
                    have := congrArg List.length hres
                    simp at *
                    rw [hpr, line_eq]; omega
                  have r9 := ((r6.up (gup _ u7)).up (gup _ u8)).up (gup _ u9)
                  exact ⟨acc6, hacc9, hlen6, Hs9, acc6 ++ [wy], ys6 ++ [y], τ10, ys', ut.put hA hA9 nT, ((s6.trans u7.s).trans u8.s).trans u9.s, r9.putg hA9 nT, upd_same, hA9, (((hr6.to u7.s).to u8.s).to u9.s).snoc ry, h17, by rw [List.append_assoc]; exact hres6⟩
section
variable {X : Cx} {scope : Scope} {own : List (Str × Nat)} {vs1 is is1 : List Nat} {it it1 : DI} {b b1 : DG} {c c1 : DT} {e : DD} {elt tg iter tg1 iter1 : Expr} {ifs ifs1 : List Expr} {pos : Pos}
theorem jcomp2 (hN : X.N.Nodup) (hi : JC X tg iter it) (ok : BlkOk X.N X.env.scope scope own) (hv : ∀ i ∈ vs1, i ∈ own.map (·.2))
    (hg : ∀ (s : Shared) (H : Hp) (C : Addr) (cl : List (Str × Addr)) (fp : List Addr), JG (X.blk s H scope (compEnvC scope cl C X.env) fp) tg is b)
    (ht : ∀ (s : Shared) (H : Hp) (C : Addr) (cl : List (Str × Addr)) (fp : List Addr), JTs (X.blk s H scope (compEnvC scope cl C X.env) fp) ifs c)
    (hi1 : ∀ (s : Shared) (H : Hp) (C : Addr) (cl : List (Str × Addr)) (fp : List Addr), JI (X.blk s H scope (compEnvC scope cl C X.env) fp) tg1 iter1 it1)
    (hg1 : ∀ (s : Shared) (H : Hp) (C : Addr) (cl : List (Str × Addr)) (fp : List Addr), JG (X.blk s H scope (compEnvC scope cl C X.env) fp) tg1 is1 b1)
    (ht1 : ∀ (s : Shared) (H : Hp) (C : Addr) (cl : List (Str × Addr)) (fp : List Addr), JTs (X.blk s H scope (compEnvC scope cl C X.env) fp) ifs1 c1)
    (he : ∀ (s : Shared) (H : Hp) (C : Addr) (cl : List (Str × Addr)) (fp : List Addr), JD (X.blk s H scope (compEnvC scope cl C X.env) fp) elt e)
    (his : ∀ i ∈ is, i ∈ own.map (·.2) := by decide) (his1 : ∀ i ∈ is1, i ∈ vs1 := by decide) (hc : X.calm = true := by rfl) (hs : ∀ x, foldedSetIterable iter X.env x = pure x := by intro _; rfl) (hs1 : ∀ env x, foldedSetIterable iter1 env x = pure x := by intro _ _; rfl) :
    JV X (.ListComp elt [⟨tg, iter, ifs, 0⟩, ⟨tg1, iter1, ifs1, 0⟩] scope pos) (dComp2 (own.map (·.2)) vs1 it b c it1 b1 c1 e) :=
  PEi (pe_lc2 hc hN hi ok hv hg ht hi1 hg1 ht1 he hs hs1) (lc2_run his his1)
theorem js_asgC2 {i : Nat} {y : Str} {py spos : Pos} (hN : X.N.Nodup) (hi : JC X tg iter it) (ok : BlkOk X.N X.env.scope scope own) (hv : ∀ i ∈ vs1, i ∈ own.map (·.2))
    (hg : ∀ (s : Shared) (H : Hp) (C : Addr) (cl : List (Str × Addr)) (fp : List Addr), JG (X.blk s H scope (compEnvC scope cl C X.env) fp) tg is b)
    (ht : ∀ (s : Shared) (H : Hp) (C : Addr) (cl : List (Str × Addr)) (fp : List Addr), JTs (X.blk s H scope (compEnvC scope cl C X.env) fp) ifs c)
    (hi1 : ∀ (s : Shared) (H : Hp) (C : Addr) (cl : List (Str × Addr)) (fp : List Addr), JI (X.blk s H scope (compEnvC scope cl C X.env) fp) tg1 iter1 it1)
    (hg1 : ∀ (s : Shared) (H : Hp) (C : Addr) (cl : List (Str × Addr)) (fp : List Addr), JG (X.blk s H scope (compEnvC scope cl C X.env) fp) tg1 is1 b1)
    (ht1 : ∀ (s : Shared) (H : Hp) (C : Addr) (cl : List (Str × Addr)) (fp : List Addr), JTs (X.blk s H scope (compEnvC scope cl C X.env) fp) ifs1 c1)
    (he : ∀ (s : Shared) (H : Hp) (C : Addr) (cl : List (Str × Addr)) (fp : List Addr), JD (X.blk s H scope (compEnvC scope cl C X.env) fp) elt e)
    (hsw : swapsWith (.ListComp elt [⟨tg, iter, ifs, 0⟩, ⟨tg1, iter1, ifs1, 0⟩] scope pos) (some (.Name y py)) spos.line X.env = pure true := by exact sw_true rfl rfl rfl (by decide +kernel))
    (his : ∀ i ∈ is, i ∈ own.map (·.2) := by decide) (his1 : ∀ i ∈ is1, i ∈ vs1 := by decide) (hc : X.calm = true := by rfl) (hs : ∀ x, foldedSetIterable iter X.env x = pure x := by intro _; rfl) (hs1 : ∀ env x, foldedSetIterable iter1 env x = pure x := by intro _ _; rfl) (hy : X.N[i]? = some y := by rfl) (hyl : X.env.scope.names.lookup y = some .local := by rfl) :
    JS X (.Assign [.Name y py] (.ListComp elt [⟨tg, iter, ifs, 0⟩, ⟨tg1, iter1, ifs1, 0⟩] scope pos) spos) (sAsg i (dComp2 (own.map (·.2)) vs1 it b c it1 b1 c1 e)) := PSi (ps_setLc2 hc hN hy hyl hsw hi ok hv hg ht hi1 hg1 ht1 he hs hs1) (asg_run (lc2_run his his1))
end
end Pv
namespace Pv
open PySem L2 PySem.Spec PyProof.Rows
def max3I (i j k : Int) : Int := if j > i then (if k > j then k else j) else (if k > i then k else i)
def max3 (ds : List D) : Option Vl := match ds with
  | [.int i, .int j, .int k] => some (.sh (.int (max3I i j k)))
  | _ => none
theorem max3I_eq (i j k : Int) : max3I i j k = max (max i j) k := by unfold max3I; split <;> split <;> omega
section
variable {X : Cx} {p pos : Pos} {e e2 e3 : Expr} {k : DA}
theorem call_max3 (hc : X.calm = true) : CallR X (.builtin "max") (fun xs H Q => ∃ i j l, xs = [.int i, .int j, .int l] ∧ Q (.int (max3I i j l)) H) := by
  intro pins s σ H xs us Q I r h
  obtain ⟨i, j, l, e, q⟩ := h
  subst e
  cases r with
  | cons r1 r =>
    cases r with
    | cons r2 r =>
      cases r with
      | cons r3 r =>
        cases r
        obtain ⟨t1, rfl⟩ := r1
        obtain ⟨t2, rfl⟩ := r2
        obtain ⟨t3, rfl⟩ := r3
        refine max_three_ints (I.ok.hd hc) fun h' tk k => ⟨_, H, I.kept k, ?_, q⟩
        unfold max3I
        split <;> split <;> exact ⟨_, rfl⟩
theorem max3_s : CallS (fun xs H Q => ∃ i j l, xs = [.int i, .int j, .int l] ∧ Q (.int (max3I i j l)) H) max3 := by
  intro g Hs H τ ws ds v Q le tp r e q
  unfold max3 at e
  split at e
  · cases e
    obtain ⟨w, u, z, rfl, r1, r2, r3⟩ := rdb3 r
    exact ⟨_, _, _, by rw [r1.int, r2.int, r3.int], q.d le tp (.int _)⟩
  · cases e
theorem jmax3 (hm : X.mg "max" = none) (ha : JRs X [e, e2, e3] k) (hc : X.calm = true := by rfl) (hg : Gl X "max" := by rfl) (he : starEach [e, e2, e3] X.env = (false, eval e X.env) :: starEach [e2, e3] X.env := by rfl) (hpl : (backTo pos (starEach [e2, e3] X.env)).any (·.1) = false := by rfl) : JV X (.Call (.Name "max" p) [e, e2, e3] [] pos) (dCl max3 k) :=
  jcB (call_max3 hc) max3_s ha hg hm (by decide +kernel) (by decide) (by decide) he hpl
end
end Pv
namespace Pv
open PySem L2 PySem.Spec PyProof.Rows
section
variable {prog : Program} {w : World} {A : Around} {E : Value → Shared → Prop} {s : Shared}
theorem sorted_colD {R : Value → D → Prop} {l : Addr} {bs : List D} {Q : Value → Shared → Prop}
    (hcol : ∀ (E' : Value → Shared → Prop) (Q' : List Value → Shared → Prop), (∀ h' tk vs, (∀ b o, s.heap.get? b = some o → h'.get? b = some o) → vs.length ≤ sizeLine → W.EachIs R vs bs → W.EachIs (fun v b => Reads h' v b []) vs bs → Q' vs { s with heap := h', toks := tk }) → wpAny (model prog w) A.in1 (collect (.ref l)) Q' E' s)
    (hal : W.AllAlike bs) (hk : W.Sortable bs) (hu : ∀ b, b ∈ bs → A.units + 2 + b.depth < cLine)
    (h : ∀ (out : List Value) (n : Nat) (h1 h' : Heap) (tk : Nat), (∀ b o, s.heap.get? b = some o → h1.get? b = some o) → (∀ b o, h1.get? b = some o → h'.get? b = some o) → h'.get? h1.objs.size = some { cls := .type "list", data := .seq out.toArray n } → W.EachIs R out (bs.mergeSort (W.dataLe false id)) → Q (.ref h1.objs.size) { s with heap := h', toks := tk }) :
    wpAny (model prog w) A (call (.builtin "sorted") [.ref l]) Q E s := by
  refine Calls.call_function_entry kind_sorted plain_sorted entry_sorted (args_sorted1 _) ?_
  unfold Builtin.«sorted»
  refine wpAny_bind (m := checkCount "sorted" 1 1 _) (wpAny_pure ?_)
  refine wpAny_bind (hcol _ _ fun h1 tk1 vs k1 hL e er => ?_)
  refine wpAny_bind (wpAny_newList ?_ hL)
  have hp0 : (h1.push { cls := .type "list", data := .seq vs.toArray }).get? h1.objs.size = some (seqObj "list" vs.toArray 0) := Heap.get?_push_size _ rfl
  have k2 : ∀ b o, h1.get? b = some o → (h1.push { cls := .type "list", data := .seq vs.toArray }).get? b = some o := fun b o q => Heap.get?_push_of_some _ q
  have er2 : W.EachIs (fun v b => ∃ as, Reads (h1.push { cls := .type "list", data := .seq vs.toArray }) v (id b) as ∧ h1.objs.size ∉ as) vs bs := er.mono fun v b r => ⟨[], PyProof.Rows.Reads.keeps k2 r, fun hm => by cases hm⟩
  refine wpAny_bind (wpAny_holding (W.list_sort_data (enc := id) hp0 e er2 (by rw [List.map_id]; exact hal) (by rw [List.map_id]; exact hk) (by rw [← e.length]; exact hL) (fun b hb => ?_) fun out ho eo => ?_))
  · exact Nat.lt_of_le_of_lt (by show A.in1.units + 1 + b.depth ≤ A.units + 2 + b.depth; exact Nat.add_le_add_right (Nat.le_refl (A.units + 1 + 1)) _) (hu b hb)
  · obtain ⟨n, hn⟩ := sortedHeap_at (vs := vs) (out := out.toArray) hp0
    refine wpAny_pure ⟨_, rfl, h out n h1 _ tk1 k1 (fun b o q => ?_) hn eo⟩
    have hlt := Heap.lt_size q
    rw [sortedHeap_old (Nat.ne_of_lt hlt) (by rw [size_push']; exact Nat.lt_succ_of_lt hlt)]
    exact k2 b o q
end
/-- a value that stands for a key -/
def KeyR (w : V) (d : D) : Prop := ∃ k : Key, d = dKey k ∧ w = kV k
def rSrtM : List V → Hp → VK → Prop := fun xs H Q => ∃ (p : Addr) (kvs : List (Key × V)), xs = [V.ref p] ∧ H p = some (.dK kvs) ∧ srtOk (kvs.map fun kv => dKey kv.1) = true ∧
  ∀ (q : Addr) (out : List V), H q = none → out.length ≤ sizeLine → Paired KeyR out (srtD (kvs.map fun kv => dKey kv.1)) → Q (.ref q) (upd H q (.lst out))
theorem keyIs_reads {h : Heap} {k : Key} {v : Value} (e : keyIs k v = true) : Reads h v (dKey k) [] := by
  cases k with
  | inl i =>
    have := keyIs_rel e
    obtain ⟨t, rfl⟩ := (this : RelV (.int i) v)
    exact .int i t
  | inr x =>
    have := keyIs_rel e
    obtain ⟨t, rfl⟩ := (this : RelV (.str x) v)
    exact .str x t
section
variable {X : Cx}
theorem cr_srtM (hc : X.calm = true) (hu : X.A.units + 64 < cLine) : CallR X (.builtin "sorted") rSrtM := by
  intro pins s σ H xs us Q I r h
  obtain ⟨p, kvs, rfl, hk, hok, q⟩ := h
  rw [Vals.ref1 r]
  unfold srtOk at hok
  rw [Bool.and_eq_true, Bool.and_eq_true] at hok
  obtain ⟨⟨h1, h2⟩, h3⟩ := hok
  have h3 := of_decide_eq_true h3
  obtain ⟨z, lo, vs, rk, hd⟩ := (show ObjOk X.prog X.w H s.heap p (.dK kvs) from I.hok p _ hk)
  obtain ⟨ep, hat⟩ := hd.dictAt
  have hl : kvs.length = vs.length := Paired.length rk
  have hkeys : vs.map (·.1) = kvs.map (·.1) := (KV.keys rk).symm
  refine sorted_colD (R := fun u d => ∃ w, RelV w u ∧ KeyR w d) (bs := kvs.map fun kv => dKey kv.1) (fun E' Q' hQ' => ?_) (allk_of h1) (sbl_of h2) (fun b hb => ?_) fun out n' h1 h' tk k1 k2 hp eo => ?_
  · refine PySem.W.kdu_collect (A := X.A.in1) (PySem.W.kdl_dict (knd := mixKind X.prog X.w) (kvs := vs) (ep := ep) lo) (I.ok.hd hc) hat (by rw [← hl]; exact z) fun h' tk acc kp hacc => ?_
    have hal : acc.toList.length = vs.length := by rw [Array.length_toList]; exact hacc.1
    have hkk : ∀ (j : Nat) (u : Value), acc.toList[j]? = some u → ∃ k : Key, (kvs.map fun kv => dKey kv.1)[j]? = some (dKey k) ∧ keyIs k u = true := fun j u hj => by
      obtain ⟨k, y, hky, hi⟩ := hacc.2 j u (by rw [← Array.getElem?_toList]; exact hj)
      refine ⟨k, ?_, hi⟩
      have e1 : (kvs.map (·.1))[j]? = some k := by rw [← hkeys, List.getElem?_map, hky]; rfl
      have e3 : (kvs.map fun kv => dKey kv.1) = (kvs.map (·.1)).map dKey := by rw [List.map_map]; rfl
      rw [e3, List.getElem?_map, e1]; rfl
    have hlen2 : acc.toList.length = (kvs.map fun kv => dKey kv.1).length := by rw [hal, List.length_map, hl]
    have each : ∀ {S : Value → D → Prop} (us : List Value) (ds : List D), us.length = ds.length → (∀ (j : Nat) (u : Value), us[j]? = some u → ∃ d, ds[j]? = some d ∧ S u d) → W.EachIs S us ds := fun {S} us => by
      induction us with
      | nil => intro ds e _; cases ds with
        | nil => exact .nil
        | cons _ _ => simp at e
      | cons u us ih =>
        intro ds e f
        cases ds with
        | nil => simp at e
        | cons d ds =>
          obtain ⟨d', e1, e2⟩ := f 0 u rfl
          cases e1
          exact .cons e2 (ih ds (by simpa using e) fun j v hj => f (j + 1) v (by simpa using hj))
    refine hQ' h' tk acc.toList kp (by rw [hal, ← hl]; exact z) (each _ _ hlen2 fun j u hj => ?_) (each _ _ hlen2 fun j u hj => ?_)
    · obtain ⟨k, e1, e2⟩ := hkk j u hj
      exact ⟨_, e1, kV k, keyIs_rel e2, k, rfl, rfl⟩
    · obtain ⟨k, e1, e2⟩ := hkk j u hj
      exact ⟨_, e1, keyIs_reads e2⟩
  · refine Nat.lt_of_le_of_lt ?_ hu
    have := depth_mem hb
    omega
  · obtain ⟨ws, rw1, rw2⟩ := each_vals eo
    have I1 : Inv X pins σ H { s with heap := h1, toks := tk } := I.kept k1
    have hz : ws.length ≤ sizeLine := by
      rw [paired_len rw2]
      rw [List.length_mergeSort, List.length_map]
      exact z
    exact ⟨.ref h1.objs.size, _, I1.laid (t' := tk) (o := .lst ws) k2 (Nat.le_refl _) ⟨hz, out, n', rw1, hp⟩, rfl, q _ ws (I1.hok.fresh (Nat.le_refl _)) hz rw2⟩
end
theorem keyR_rps {Hs : Hp} : ∀ {ws : List V} {ds : List D}, Paired KeyR ws ds → Rps Hs ws ds
  | _, _, .nil => .nil
  | _, _, .cons ⟨k, e1, e2⟩ t => by
    subst e1; subst e2
    refine .cons ?_ (keyR_rps t)
    cases k with
    | inl i => exact .int i
    | inr x => exact .str x
def dsortedM (m : DE) : DE := fun env τ => bnd (m env τ) fun v τ1 => match v with
  | .dk kvs => if srtOk (kvs.map fun kv => dKey kv.1) = true then some (.ow (srtD (kvs.map fun kv => dKey kv.1)), τ1) else none
  | _ => none
theorem kps_keys {Hs : Hp} : ∀ {a : List (Key × V)} {b : List (Key × D)}, Kps Hs a b → (a.map fun kv => dKey kv.1) = b.map fun kv => dKey kv.1
  | _, _, .nil => rfl
  | _, _, .cons h t => by rw [List.map_cons, List.map_cons, kps_keys t, h.1]
theorem jsortedM {X : Cx} {p pos : Pos} {e : Expr} {m : DE} (hm : X.mg "sorted" = none) (hu : X.A.units + 64 < cLine) (he : JM X e m) (hc : X.calm = true := by rfl) (hg : Gl X "sorted" := by rfl)
    (h1 : starEach [e] X.env = (false, eval e X.env) :: starEach [] X.env := by rfl) (hpl : (backTo pos (starEach [] X.env)).any (·.1) = false := by rfl) : JV X (.Call (.Name "sorted" p) [e] [] pos) (dsortedM m) :=
  PEi (pe_callB (cr_srtM hc hu) hg hm (by decide +kernel) (pa_cons he pa_nil h1) (by decide) (by decide) h1 hpl) fun σ H Q ⟨g, Hs, env, τ, o, τ', r, hf, q⟩ => by
    obtain ⟨v, τ1, h1, h2⟩ := bnd_eq hf
    refine ⟨g, Hs, env, τ, v, τ1, r, h1, fun w Hs1 H1 u1 rv => ?_⟩
    split at h2
    · rename_i kvs
      split at h2
      · rename_i hok
        cases h2
        obtain ⟨p, kv, rfl, _, _, hp, hr⟩ := rv
        have hke := kps_keys hr
        refine ⟨p, kv, rfl, hp, by rw [hke]; exact hok, fun a out ha hz ho => ?_⟩
        rw [hke] at ho
        exact q _ Hs1 _ (u1.mk1 ha) ⟨a, out, rfl, u1.neT ha, u1.freeS ha, upd_same, hz, keyR_rps ho⟩ fun _ p' ep => by cases ep; exact u1.old ha
      · cases h2
    · cases h2
end Pv
namespace Pv
open PySem L2 PySem.Spec PyProof.Rows
def rPickM (pick : D → List D → D) : List V → Hp → VK → Prop := fun xs H Q => ∃ (p : Addr) (kvs : List (Key × V)) (x : D) (ds : List D), xs = [V.ref p] ∧ H p = some (.dK kvs) ∧ (kvs.map fun kv => dKey kv.1) = x :: ds ∧ alk (x :: ds) = true ∧ PyData.depthAll (x :: ds) ≤ 60 ∧
  ∀ (k : Key), dKey k = pick x ds → Q (kV k) H
section
variable {X : Cx}
theorem key_at {kvs : List (Key × V)} {vs : List (Key × Value)} {x : D} {ds : List D} (hkeys : vs.map (·.1) = kvs.map (·.1)) (hds : (kvs.map fun kv => dKey kv.1) = x :: ds) {i : Nat} {v : Value} (h : ∃ k y, vs[i]? = some (k, y) ∧ keyIs k v = true) : ∃ k : Key, (x :: ds).getD i .none = dKey k ∧ keyIs k v = true ∧ i < (x :: ds).length ∧ (x :: ds).getD i .none ∈ x :: ds := by
  obtain ⟨k, y, hky, hi⟩ := h
  have e1 : (kvs.map (·.1))[i]? = some k := by rw [← hkeys, List.getElem?_map, hky]; rfl
  have e3 : (kvs.map fun kv => dKey kv.1) = (kvs.map (·.1)).map dKey := by rw [List.map_map]; rfl
  have e4 : (x :: ds)[i]? = some (dKey k) := by rw [← hds, e3, List.getElem?_map, e1]; rfl
  have e5 : (x :: ds).getD i .none = dKey k := by rw [List.getD_eq_getElem?_getD, e4]; rfl
  exact ⟨k, e5, hi, (List.getElem?_eq_some_iff.mp e4).1, by rw [e5]; exact List.mem_of_getElem? e4⟩
theorem cr_minM (hc : X.calm = true) (hu : X.A.units + 64 < cLine) : CallR X (.builtin "min") (rPickM W.minD) := by
  intro pins s σ H xs us Q I r h
  obtain ⟨p, kvs, x, ds, rfl, hk, hds, ha, hdep, q⟩ := h
  rw [Vals.ref1 r]
  obtain ⟨z, lo, vs, rk, hd⟩ := (show ObjOk X.prog X.w H s.heap p (.dK kvs) from I.hok p _ hk)
  obtain ⟨ep, hat⟩ := hd.dictAt
  have hl : kvs.length = vs.length := Paired.length rk
  have hkeys : vs.map (·.1) = kvs.map (·.1) := (KV.keys rk).symm
  have hlen : vs.length = (x :: ds).length := by rw [← hl, ← hds, List.length_map]
  have hal := alk_of ha
  have K := PySem.W.kdl_dict (prog := X.prog) (w := X.w) (d := p) (knd := mixKind X.prog X.w) (kvs := vs) (ep := ep) lo
  refine call_min_walkH ?_
  obtain ⟨oI, St, hit, Wk, st⟩ := K.iter X.A.in1 s (I.ok.hd hc) hat
  refine hit _ _ ⟨s.heap.objs.size, _, _, _, _, _, _, s.heap, fun i j => W.dataLt ((x :: ds).getD i .none) ((x :: ds).getD j .none), rfl, Wk.toS, st, fun b hb => ?_, by rw [hlen]; simp, fun b o e hm => ?_, fun b o e => Heap.get?_push_of_some _ e, fun i j vi vj s' Q' E' hkp hi hj hq => ?_, fun v s' hP hm => ?_⟩
  · show b < (s.heap.push oI).objs.size
    rw [size_push']
    rcases List.mem_cons.mp hb with e | hb
    · rw [e]; exact Nat.lt_succ_self _
    · rw [List.mem_singleton.mp hb]; exact Nat.lt_succ_of_lt (K.there _ hat).2
  · have := Heap.lt_size e
    rw [List.mem_singleton.mp hm] at this
    exact Nat.lt_irrefl _ this
  · obtain ⟨k1, a1, a2, _, a4⟩ := key_at hkeys hds hi
    obtain ⟨k2, b1, b2, _, b4⟩ := key_at hkeys hds hj
    refine W.rcLt_alike _ _ X.A.in1 s' vi vj [] [] (keyIs_reads (k := k1) a2) (keyIs_reads (k := k2) b2) (by rw [← a1, ← b1]; exact hal.1 _ a4 _ b4) (by rw [← a1]; exact hal.2 _ a4) ?_ X.prog X.w E' Q' (by rw [← a1, ← b1]; exact hq)
    have q1 : (dKey k1).depth ≤ PyData.depthAll (x :: ds) := by rw [← a1]; exact depth_mem a4
    have q2 := Nat.min_le_left (dKey k1).depth (dKey k2).depth
    show X.A.units + 1 + _ < _
    omega
  · have hkp : ∀ b o, s.heap.get? b = some o → s'.heap.get? b = some o := fun b o e => hm.heap b o (fun hI => absurd (Heap.lt_size e) (by rw [List.mem_singleton.mp hI]; exact Nat.lt_irrefl _)) (Heap.get?_push_of_some _ e)
    obtain ⟨k, a1, a2, _, _⟩ := key_at hkeys hds hP
    have e1 : vs.length - 1 = ds.length := by rw [hlen]; rfl
    have e2 := (W.argBest_fold W.dataLt PyData.none x ds ds.length (Nat.le_refl _)).2
    rw [List.take_length] at e2
    rw [e1, e2] at a1
    rw [Moved.eq_with hm]
    exact ⟨kV k, H, I.kept hkp, keyIs_rel a2, q k a1.symm⟩
theorem cr_maxM (hc : X.calm = true) (hu : X.A.units + 64 < cLine) : CallR X (.builtin "max") (rPickM W.maxD) := by
  intro pins s σ H xs us Q I r h
  obtain ⟨p, kvs, x, ds, rfl, hk, hds, ha, hdep, q⟩ := h
  rw [Vals.ref1 r]
  obtain ⟨z, lo, vs, rk, hd⟩ := (show ObjOk X.prog X.w H s.heap p (.dK kvs) from I.hok p _ hk)
  obtain ⟨ep, hat⟩ := hd.dictAt
  have hl : kvs.length = vs.length := Paired.length rk
  have hkeys : vs.map (·.1) = kvs.map (·.1) := (KV.keys rk).symm
  have hlen : vs.length = (x :: ds).length := by rw [← hl, ← hds, List.length_map]
  have hal := alk_of ha
  have K := PySem.W.kdl_dict (prog := X.prog) (w := X.w) (d := p) (knd := mixKind X.prog X.w) (kvs := vs) (ep := ep) lo
  refine call_max_walkH ?_
  obtain ⟨oI, St, hit, Wk, st⟩ := K.iter X.A.in1 s (I.ok.hd hc) hat
  refine hit _ _ ⟨s.heap.objs.size, _, _, _, _, _, _, s.heap, fun i j => W.dataLt ((x :: ds).getD j .none) ((x :: ds).getD i .none), rfl, Wk.toS, st, fun b hb => ?_, by rw [hlen]; simp, fun b o e hm => ?_, fun b o e => Heap.get?_push_of_some _ e, fun i j vi vj s' Q' E' hkp hi hj hq => ?_, fun v s' hP hm => ?_⟩
  · show b < (s.heap.push oI).objs.size
    rw [size_push']
    rcases List.mem_cons.mp hb with e | hb
    · rw [e]; exact Nat.lt_succ_self _
    · rw [List.mem_singleton.mp hb]; exact Nat.lt_succ_of_lt (K.there _ hat).2
  · have := Heap.lt_size e
    rw [List.mem_singleton.mp hm] at this
    exact Nat.lt_irrefl _ this
  · obtain ⟨k1, a1, a2, _, a4⟩ := key_at hkeys hds hi
    obtain ⟨k2, b1, b2, _, b4⟩ := key_at hkeys hds hj
    refine W.rcGt_alike _ _ X.A.in1 s' vi vj [] [] (keyIs_reads (k := k1) a2) (keyIs_reads (k := k2) b2) (by rw [← a1, ← b1]; exact hal.1 _ a4 _ b4) (by rw [← a1]; exact hal.2 _ a4) ?_ X.prog X.w E' Q' (by rw [← a1, ← b1]; exact hq)
    have q1 : (dKey k1).depth ≤ PyData.depthAll (x :: ds) := by rw [← a1]; exact depth_mem a4
    have q2 := Nat.min_le_left (dKey k1).depth (dKey k2).depth
    show X.A.units + 1 + _ < _
    omega
  · have hkp : ∀ b o, s.heap.get? b = some o → s'.heap.get? b = some o := fun b o e => hm.heap b o (fun hI => absurd (Heap.lt_size e) (by rw [List.mem_singleton.mp hI]; exact Nat.lt_irrefl _)) (Heap.get?_push_of_some _ e)
    obtain ⟨k, a1, a2, _, _⟩ := key_at hkeys hds hP
    have e1 : vs.length - 1 = ds.length := by rw [hlen]; rfl
    have e2 := (W.argBest_fold (fun a b => W.dataLt b a) PyData.none x ds ds.length (Nat.le_refl _)).2
    rw [List.take_length] at e2
    rw [e1, e2] at a1
    rw [Moved.eq_with hm]
    exact ⟨kV k, H, I.kept hkp, keyIs_rel a2, q k a1.symm⟩
end
def dPickM (pick : D → List D → D) (m : DE) : DE := fun env τ => bnd (m env τ) fun v τ1 => match v with
  | .dk kvs => (match kvs.map fun kv => dKey kv.1 with
    | x :: ds => if alk (x :: ds) = true ∧ PyData.depthAll (x :: ds) ≤ 60 then some (.sh (pick x ds), τ1) else none
    | [] => none)
  | _ => none
def dminM : DE → DE := dPickM W.minD
def dmaxM : DE → DE := dPickM W.maxD
theorem rp_key {Hs : Hp} (k : Key) : Rp Hs (kV k) (dKey k) := by
  cases k with
  | inl i => exact .int i
  | inr x => exact .str x
theorem pickM_run {X : Cx} {pick : D → List D → D} {m : DE} (hp : ∀ x ds, pick x ds ∈ x :: ds) : ∀ σ H Q, tV (dPickM pick m) σ H Q → ∃ g Hs env τ v τ', Rel g Hs H σ env τ ∧ m env τ = some (v, τ') ∧ ∀ w Hs' H', Up g Hs H Hs' H' τ' → RepV g.aT Hs' H' w v → rPickM pick [w] H' Q := fun σ H Q ⟨g, Hs, env, τ, o, τ', r, hf, q⟩ => by
  obtain ⟨v, τ1, h1, h2⟩ := bnd_eq hf
  refine ⟨g, Hs, env, τ, v, τ1, r, h1, fun w Hs1 H1 u1 rv => ?_⟩
  split at h2
  · rename_i kvs
    split at h2
    · rename_i x ds hds
      split at h2
      · rename_i hok
        cases h2
        obtain ⟨p, kv, rfl, _, _, hpp, hr⟩ := rv
        have hke := kps_keys hr
        refine ⟨p, kv, x, ds, rfl, hpp, by rw [hke]; exact hds, hok.1, hok.2, fun k hk => ?_⟩
        exact q _ Hs1 H1 u1 (by rw [← hk]; exact rp_key k) fun e => by cases e
      · cases h2
    · cases h2
  · cases h2
theorem minD_in (x : D) (ds : List D) : W.minD x ds ∈ x :: ds := by
  unfold W.minD
  induction ds generalizing x with
  | nil => simp
  | cons y ys ih =>
    rw [List.foldl_cons]
    have := ih (if W.dataLt y x = true then y else x)
    rcases List.mem_cons.mp this with h | h
    · rw [h]; split <;> simp
    · simp [h]
theorem maxD_in (x : D) (ds : List D) : W.maxD x ds ∈ x :: ds := by
  unfold W.maxD
  induction ds generalizing x with
  | nil => simp
  | cons y ys ih =>
    rw [List.foldl_cons]
    have := ih (if W.dataLt x y = true then y else x)
    rcases List.mem_cons.mp this with h | h
    · rw [h]; split <;> simp
    · simp [h]
section
variable {X : Cx} {p pos : Pos} {e : Expr} {m : DE}
theorem jminM (hm : X.mg "min" = none) (hu : X.A.units + 64 < cLine) (he : JM X e m) (hc : X.calm = true := by rfl) (hg : Gl X "min" := by rfl)
    (h1 : starEach [e] X.env = (false, eval e X.env) :: starEach [] X.env := by rfl) (hpl : (backTo pos (starEach [] X.env)).any (·.1) = false := by rfl) : JV X (.Call (.Name "min" p) [e] [] pos) (dminM m) :=
  PEi (pe_callB (cr_minM hc hu) hg hm (by decide +kernel) (pa_cons he pa_nil h1) (by decide) (by decide) h1 hpl) (pickM_run (X := X) minD_in)
theorem jmaxM (hm : X.mg "max" = none) (hu : X.A.units + 64 < cLine) (he : JM X e m) (hc : X.calm = true := by rfl) (hg : Gl X "max" := by rfl)
    (h1 : starEach [e] X.env = (false, eval e X.env) :: starEach [] X.env := by rfl) (hpl : (backTo pos (starEach [] X.env)).any (·.1) = false := by rfl) : JV X (.Call (.Name "max" p) [e] [] pos) (dmaxM m) :=
  PEi (pe_callB (cr_maxM hc hu) hg hm (by decide +kernel) (pa_cons he pa_nil h1) (by decide) (by decide) h1 hpl) (pickM_run (X := X) maxD_in)
end
end Pv
namespace Pv
open PySem L2 PySem.Spec PyProof.Rows
/-- is_within(thing, low, high) -/
abbrev b0 : (Nat → Cal) → DS := fun C => sRet (vD (dand (dIsi .int (dVar 0)) (dand (dnot (tstD (dIsi .bool (dVar 0)))) (dChn leV leV (dVar 1) (dVar 0) (dVar 2)))))
abbrev d0 : Df := ⟨3, 3, b0⟩
/-- is_name(thing) -/
abbrev b1 : (Nat → Cal) → DS := fun C => sRet (vD (dand (dIsi .str (dVar 0)) (dand (dChn leV leV (dK (.int 1)) (shD (dCl lenV (dCons (dVar 0) (dNil)))) (dK (.int 8))) (shD (dCl allC (dCons (shD (dComp [1] (dIt (dVar 0)) (gN 1) (yes) (shD (dBin inV (dVar 1) (dK (.str ("abcdefghijklmnopqrstuvwxyz" : Str))))))) (dNil)))))))
abbrev d1 : Df := ⟨1, 2, b1⟩
/-- is_one(thing) -/
abbrev b2 : (Nat → Cal) → DS := fun C => sSeq (sIf (tor (tnot (tstD (dIsi .tuple (dVar 0)))) (tor (tst (dBin neV (shD (dCl lenV (dCons (dVar 0) (dNil)))) (dK (.int 3)))) (tnot (tst (dDef (C 1) (vCons (shD (dBin ixV (dVar 0) (dK (.int 0)))) (vNil))))))) (sRet (vD (dK (.bool false)))) (sNil)) (sRet (vD (dand (shD (dDef (C 0) (vCons (shD (dBin ixV (dVar 0) (dK (.int 1)))) (vCons (dK (.int 0)) (vCons (dK (.int 40)) (vNil)))))) (dand (shD (dDef (C 0) (vCons (shD (dBin ixV (dVar 0) (dK (.int 2)))) (vCons (dK (.int 0)) (vCons (dK (.int 40)) (vNil)))))) (shD (dBin leV (shD (dBin ixV (dVar 0) (dK (.int 1)))) (shD (dBin ixV (dVar 0) (dK (.int 2))))))))))
abbrev d2 : Df := ⟨1, 1, b2⟩
/-- are_folk(thing) -/
abbrev b3 : (Nat → Cal) → DS := fun C => sSeq (sIf (tor (tnot (tstD (dIsi .tuple (dVar 0)))) (tor (tnot (tstD (dChn leV leV (dK (.int 1)) (shD (dCl lenV (dCons (dVar 0) (dNil)))) (dK (.int 6))))) (tnot (tst (dCl allC (dCons (shD (dComp [1] (dIt (dVar 0)) (gN 1) (yes) (shD (dDef (C 2) (vCons (dVar 1) (vNil)))))) (dNil))))))) (sRet (vD (dK (.bool false)))) (sNil)) (sSeq (sAsg 2 (dComp [1] (dIt (dVar 0)) (gN 1) (yes) (shD (dBin ixV (dVar 1) (dK (.int 0)))))) (sRet (dCl allC (dCons (shD (dComp [1, 3] (dZip (dVar 2) (shD (dSl (dVar 2) (oSome (dK (.int 1))) (oNone)))) (gT [1, 3]) (yes) (shD (dBin ltV (dVar 1) (dVar 3))))) (dNil)))))
abbrev d3 : Df := ⟨1, 4, b3⟩
/-- _law_draw(tape, many) -/
abbrev b4 : (Nat → Cal) → DS := fun C => sSeq (sAsg 2 (vD (dK (.int 2305843009213693951)))) (sSeq (sIf (tst (dBin ltV (dTapIx 0 2) (dVar 1))) (sSeq (sAsg 3 (vD (dK (.int 0)))) (sSeq (sIf (tst (dBin gtV (shD (dCl lenV (dCons (dTapIx 0 0) (dNil)))) (dK (.int 0)))) (sAsg 3 (dBin ixV (dTapIx 0 0) (shD (dBin modV (dTapIx 0 1) (shD (dCl lenV (dCons (dTapIx 0 0) (dNil)))))))) (sNil)) (sSeq (sIf (tor (tst (dBin geV (dTapIx 0 1) (shD (dCl lenV (dCons (dTapIx 0 0) (dNil)))))) (tst (dBin ltV (dVar 3) (shD (dBin powV (dK (.int 10)) (dK (.int 18))))))) (sSeq (sAsg 3 (dBin modV (shD (dBin addV (dVar 3) (shD (dBin mulV (dK (.int 1000003)) (dTapIx 0 1))))) (dVar 2))) (sSeq (sAsg 3 (dBin modV (shD (dBin addV (shD (dBin addV (shD (dBin mulV (dVar 3) (dVar 3))) (shD (dBin mulV (dK (.int 1181783497276652981)) (dVar 3))))) (dK (.int 2049848353892358983)))) (dVar 2))) (sAsg 3 (dBin modV (shD (dBin addV (shD (dBin mulV (dVar 3) (dVar 3))) (dK (.int 1442695040888963407)))) (dVar 2))))) (sNil)) (sSeq (sTap 0 1 (shD (dBin addV (dTapIx 0 1) (dK (.int 1))))) (sTap 0 2 (dVar 3)))))) (sNil)) (sSeq (sAsg 4 (dBin modV (dTapIx 0 2) (dVar 1))) (sSeq (sTap 0 2 (shD (dBin fdivV (dTapIx 0 2) (dVar 1)))) (sRet (vD (dVar 4))))))
abbrev d4 : Df := ⟨2, 5, b4⟩
/-- _law_like(one, two) -/
abbrev b7 : (Nat → Cal) → DS := fun C => sSeq (sIf (tstD (dIsi2 .list .tuple (dVar 0))) (sSeq (sIf (tor (tst (dBin neV (dIsi .list (dVar 0)) (dIsi .list (dVar 1)))) (tst (dBin neV (dIsi .tuple (dVar 0)) (dIsi .tuple (dVar 1))))) (sRet (vD (dK (.bool false)))) (sNil)) (sSeq (sIf (tst (dBin neV (shD (dCl lenV (dCons (dVar 0) (dNil)))) (shD (dCl lenV (dCons (dVar 1) (dNil)))))) (sRet (vD (dK (.bool false)))) (sNil)) (sRet (dBin eqV (shD (dComp [2] (dRng1 (dCons (shD (dCl lenV (dCons (dVar 0) (dNil)))) (dNil))) (gN 2) (tnot (tst (dDef (C 7) (vCons (shD (dBin ixV (dVar 0) (dVar 2))) (vCons (shD (dBin ixV (dVar 1) (dVar 2))) (vNil)))))) (dVar 2))) (shD (dLst (dNil))))))) (sNil)) (sSeq (sIf (tstD (dIsi2 .list .tuple (dVar 1))) (sRet (vD (dK (.bool false)))) (sNil)) (sRet (vD (dand (shD (dBin eqV (dIsi .bool (dVar 0)) (dIsi .bool (dVar 1)))) (shD (dBin eqV (dVar 0) (dVar 1)))))))
abbrev d7 : Df := ⟨2, 3, b7⟩
/-- _law_folk(tape, size) -/
abbrev b12 : (Nat → Cal) → DS := fun C => sSeq (sPar [2, 3] (wCons (shD (dBin ixV (shD (dLst (dCons (dK (.int 6)) (dCons (dK (.int 20)) (dCons (dK (.int 41)) (dNil)))))) (shD (dDef (C 4) (vTap 0 (vCons (dK (.int 3)) (vNil))))))) (wCons (shD (dBin ixV (shD (dLst (dCons (dK (.int 1)) (dCons (dK (.int 4)) (dCons (dK (.int 20)) (dNil)))))) (shD (dDef (C 4) (vTap 0 (vCons (dK (.int 3)) (vNil))))))) (wNil)))) (sSeq (sAsg 4 (dDef (C 4) (vTap 0 (vCons (shD (dBin subV (dK (.int 42)) (dVar 2))) (vNil))))) (sSeq (sAsgO 5 (dLst (dNil))) (sSeq (sFor (dIt (shD (dSl (shD (dLst (dCons (dK (.str ("ann" : Str))) (dCons (dK (.str ("bob" : Str))) (dCons (dK (.str ("cy" : Str))) (dCons (dK (.str ("dee" : Str))) (dCons (dK (.str ("eve" : Str))) (dCons (dK (.str ("fay" : Str))) (dNil))))))))) (oNone) (oSome (shD (dBin addV (dK (.int 1)) (shD (dDef (C 4) (vTap 0 (vCons (dVar 1) (vNil))))))))))) (gN 6) (sSeq (sAsg 7 (dBin addV (dVar 4) (shD (dDef (C 4) (vTap 0 (vCons (dVar 2) (vNil))))))) (sMut 5 appV (dCons (dTup (dCons (dVar 6) (dCons (dVar 7) (dCons (shD (dCl min2 (dCons (dK (.int 40)) (dCons (shD (dBin addV (dVar 7) (shD (dDef (C 4) (vTap 0 (vCons (dVar 3) (vNil))))))) (dNil))))) (dNil))))) (dNil))))) (sRet (dCl tupC (dCons (dBor 5) (dNil)))))))
abbrev d12 : Df := ⟨2, 8, b12⟩
/-- suited(one, degree) -/
abbrev b15 : (Nat → Cal) → DS := fun C => sSeq (sUnp (gT [2, 3, 4]) (dVar 0)) (sRet (dCl min2 (dCons (shD (dCl max2 (dCons (dVar 1) (dCons (dVar 3) (dNil))))) (dCons (dVar 4) (dNil)))))
abbrev d15 : Df := ⟨2, 5, b15⟩
/-- settings(folk, degree, visits) -/
abbrev b16 : (Nat → Cal) → DS := fun C => sSeq (sAsgO 3 (dDc [4] (dIt (dVar 0)) (gN 4) (yes) (shD (dBin ixV (dVar 4) (dK (.int 0)))) (dVar 4))) (sSeq (sAsgO 5 (dLst (dNil))) (sSeq (sFor (dIt (dVar 2)) (gN 6) (sSeq (sAsg 1 (dDef (C 15) (vCons (dGet (dMb 3) (dVar 6)) (vCons (dVar 1) (vNil))))) (sMut 5 appV (dCons (dVar 1) (dNil))))) (sRetO 5)))
abbrev d16 : Df := ⟨3, 7, b16⟩
/-- turned(folk, degree, visits) -/
abbrev b17 : (Nat → Cal) → DS := fun C => sSeq (sAsg 3 (dBin addV (shD (dLst (dCons (dVar 1) (dNil)))) (shD (dDef (C 16) (vCons (dVar 0) (vCons (dVar 1) (vCons (dVar 2) (vNil)))))))) (sRet (dCl sumC (dCons (shD (dComp [4, 5] (dZip (dVar 3) (shD (dSl (dVar 3) (oSome (dK (.int 1))) (oNone)))) (gT [4, 5]) (yes) (shD (dCl absC (dCons (shD (dBin subV (dVar 4) (dVar 5))) (dNil)))))) (dNil))))
abbrev d17 : Df := ⟨3, 6, b17⟩
/-- two_numbers(folk, visits) -/
abbrev b18 : (Nat → Cal) → DS := fun C => sRet (vD (dTup (dCons (shD (dBin ixV (shD (dBin addV (shD (dLst (dCons (dK (.int 0)) (dNil)))) (shD (dDef (C 16) (vCons (dVar 0) (vCons (dK (.int 0)) (vCons (dVar 1) (vNil)))))))) (dNeg (dK (.int 1))))) (dCons (shD (dBin ixV (shD (dBin addV (shD (dLst (dCons (dK (.int 40)) (dNil)))) (shD (dDef (C 16) (vCons (dVar 0) (vCons (dK (.int 40)) (vCons (dVar 1) (vNil)))))))) (dNeg (dK (.int 1))))) (dNil)))))
abbrev d18 : Df := ⟨2, 2, b18⟩
/-- _law_names(folk) -/
abbrev b19 : (Nat → Cal) → DS := fun C => sRet (dComp [1] (dIt (dVar 0)) (gN 1) (yes) (shD (dBin ixV (dVar 1) (dK (.int 0)))))
abbrev d19 : Df := ⟨1, 2, b19⟩
/-- _law_visits(tape, folk, size) -/
abbrev b20 : (Nat → Cal) → DS := fun C => sSeq (sAsg 3 (dDef (C 19) (vCons (dVar 1) (vNil)))) (sRet (dComp [4] (dRng1 (dCons (shD (dDef (C 4) (vTap 0 (vCons (shD (dBin addV (dVar 2) (dK (.int 1)))) (vNil))))) (dNil))) (gN 4) (yes) (shD (dBin ixV (dVar 3) (shD (dDef (C 4) (vTap 0 (vCons (shD (dCl lenV (dCons (dVar 3) (dNil)))) (vNil)))))))))
abbrev d20 : Df := ⟨3, 5, b20⟩
/-- _law_rows(folk, degree, visits) -/
abbrev b21 : (Nat → Cal) → DS := fun C => sSeq (sAsgO 3 (dDictL (shD (dComp [4, 5, 6] (dIt (dVar 0)) (gT [4, 5, 6]) (yes) (dTup (dCons (dVar 4) (dCons (dTup (dCons (dVar 5) (dCons (dVar 6) (dNil)))) (dNil)))))))) (sSeq (sAsgO 7 (dLst (dNil))) (sSeq (sFor (dIt (dVar 2)) (gN 4) (sSeq (sUnp (gT [5, 6]) (dGet (dMb 3) (dVar 4))) (sSeq (sAsg 1 (vD (dif (tst (dBin ltV (dVar 1) (dVar 5))) (dVar 5) (dif (tst (dBin gtV (dVar 1) (dVar 6))) (dVar 6) (dVar 1))))) (sMut 7 appV (dCons (dVar 1) (dNil)))))) (sRetO 7)))
abbrev d21 : Df := ⟨3, 8, b21⟩
/-- _law_turned(folk, degree, visits) -/
abbrev b22 : (Nat → Cal) → DS := fun C => sSeq (sAsg 3 (vD (dK (.int 0)))) (sSeq (sFor (dIt (shD (dDef (C 21) (vCons (dVar 0) (vCons (dVar 1) (vCons (dVar 2) (vNil))))))) (gN 4) (sPar [3, 1] (wCons (shD (dBin addV (dVar 3) (shD (dCl absC (dCons (shD (dBin subV (dVar 4) (dVar 1))) (dNil)))))) (wCons (dVar 4) (wNil))))) (sRet (vD (dVar 3))))
abbrev d22 : Df := ⟨3, 5, b22⟩
/-- first_day(folk, degree, order) -/
abbrev b26 : (Nat → Cal) → DS := fun C => sRet (dBin ixV (shD (dDef (C 16) (vCons (dVar 0) (vCons (dVar 1) (vCons (dVar 2) (vNil)))))) (dNeg (dK (.int 1))))
abbrev d26 : Df := ⟨3, 3, b26⟩
/-- far_setting(folk, degree, order, days) -/
abbrev b27 : (Nat → Cal) → DS := fun C => sRet (vif (tst (dBin gtV (dVar 3) (dK (.int 0)))) (dDef (C 26) (vCons (dVar 0) (vCons (dVar 1) (vCons (dVar 2) (vNil))))) (vD (dVar 1)))
abbrev d27 : Df := ⟨4, 4, b27⟩
/-- each_day(folk, order) -/
abbrev b28 : (Nat → Cal) → DS := fun C => sRet (dDef (C 17) (vCons (dVar 0) (vCons (shD (dDef (C 26) (vCons (dVar 0) (vCons (dK (.int 0)) (vCons (dVar 1) (vNil)))))) (vCons (dVar 1) (vNil)))))
abbrev d28 : Df := ⟨2, 2, b28⟩
/-- far_turned(folk, degree, order, days) -/
abbrev b29 : (Nat → Cal) → DS := fun C => sSeq (sIf (tst (dBin eqV (dVar 3) (dK (.int 0)))) (sRet (vD (dK (.int 0)))) (sNil)) (sRet (dBin addV (shD (dDef (C 17) (vCons (dVar 0) (vCons (dVar 1) (vCons (dVar 2) (vNil)))))) (shD (dBin mulV (shD (dBin subV (dVar 3) (dK (.int 1)))) (shD (dDef (C 28) (vCons (dVar 0) (vCons (dVar 2) (vNil)))))))))
abbrev d29 : Df := ⟨4, 4, b29⟩
/-- _law_any_order(tape, many) -/
abbrev b30 : (Nat → Cal) → DS := fun C => sSeq (sAsgO 2 (dLst (dNil))) (sSeq (sFor (dRng1 (dCons (dVar 1) (dNil))) (gN 3) (sMut 2 insV (dCons (shD (dDef (C 4) (vTap 0 (vCons (shD (dBin addV (dVar 3) (dK (.int 1)))) (vNil))))) (dCons (dVar 3) (dNil))))) (sRet (dCl tupC (dCons (dBor 2) (dNil)))))
abbrev d30 : Df := ⟨2, 4, b30⟩
/-- _law_order(tape, folk) -/
abbrev b31 : (Nat → Cal) → DS := fun C => sRet (dCl tupC (dCons (shD (dComp [2] (dIt (shD (dDef (C 30) (vTap 0 (vCons (shD (dCl lenV (dCons (dVar 1) (dNil)))) (vNil)))))) (gN 2) (yes) (shD (dBin ixV (shD (dBin ixV (dVar 1) (dVar 2))) (dK (.int 0)))))) (dNil)))
abbrev d31 : Df := ⟨2, 3, b31⟩
/-- _law_later_day(folk, order) -/
abbrev b32 : (Nat → Cal) → DS := fun C => sSeq (sPar [2, 3] (wCons (shD (dBin ixV (shD (dDef (C 21) (vCons (dVar 0) (vCons (dK (.int 0)) (vCons (dVar 1) (vNil)))))) (dNeg (dK (.int 1))))) (wConsO (dLst (dNil)) (wNil)))) (sSeq (sFor (dZip (dVar 1) (shD (dDef (C 21) (vCons (dVar 0) (vCons (dVar 2) (vCons (dVar 1) (vNil))))))) (gT [4, 5]) (sSeq (sMut 3 appV (dCons (dTup (dCons (dVar 4) (dCons (dVar 2) (dCons (dVar 5) (dNil))))) (dNil))) (sAsg 2 (vD (dVar 5))))) (sRetO 3))
abbrev d32 : Df := ⟨2, 6, b32⟩
/-- _law_each_day(folk, order) -/
abbrev b33 : (Nat → Cal) → DS := fun C => sRet (dCl sumC (dCons (shD (dComp [2, 3, 4] (dIt (shD (dDef (C 32) (vCons (dVar 0) (vCons (dVar 1) (vNil)))))) (gT [2, 3, 4]) (yes) (shD (dCl absC (dCons (shD (dBin subV (dVar 3) (dVar 4))) (dNil)))))) (dNil)))
abbrev d33 : Df := ⟨2, 5, b33⟩
/-- moves(folk, order) -/
abbrev b35 : (Nat → Cal) → DS := fun C => sSeq (sAsg 2 (dDef (C 26) (vCons (dVar 0) (vCons (dK (.int 0)) (vCons (dVar 1) (vNil)))))) (sSeq (sAsgO 3 (dLst (dNil))) (sSeq (sFor (dZip (dVar 1) (shD (dDef (C 16) (vCons (dVar 0) (vCons (dVar 2) (vCons (dVar 1) (vNil))))))) (gT [4, 5]) (sSeq (sMut 3 appV (dCons (dTup (dCons (dVar 4) (dCons (dVar 2) (dCons (dVar 5) (dNil))))) (dNil))) (sAsg 2 (vD (dVar 5))))) (sRetO 3)))
abbrev d35 : Df := ⟨2, 6, b35⟩
/-- crossed(folk, order) -/
abbrev b36 : (Nat → Cal) → DS := fun C => sSeq (sAsg 2 (dDef (C 35) (vCons (dVar 0) (vCons (dVar 1) (vNil))))) (sSeq (sAsgO 3 (dLst (dNil))) (sSeq (sFor (dRng1 (dCons (dK (.int 40)) (dNil))) (gN 4) (sMut 3 appV (dCons (shD (dCl lenV (dCons (shD (dComp [5, 6, 7] (dIt (dVar 2)) (gT [5, 6, 7]) (tstD (dChn leV ltV (shD (dCl min2 (dCons (dVar 6) (dCons (dVar 7) (dNil))))) (dVar 4) (shD (dCl max2 (dCons (dVar 6) (dCons (dVar 7) (dNil))))))) (dK (.int 1)))) (dNil)))) (dNil)))) (sRetO 3)))
abbrev d36 : Df := ⟨2, 8, b36⟩
/-- shares(folk, order) -/
abbrev b37 : (Nat → Cal) → DS := fun C => sRet (dCl srtC (dCons (shD (dComp [2, 3, 4] (dIt (shD (dDef (C 35) (vCons (dVar 0) (vCons (dVar 1) (vNil)))))) (gT [2, 3, 4]) (yes) (dTup (dCons (dVar 2) (dCons (shD (dCl absC (dCons (shD (dBin subV (dVar 3) (dVar 4))) (dNil)))) (dNil)))))) (dNil)))
abbrev d37 : Df := ⟨2, 5, b37⟩
/-- lesser_side(folk, step) -/
abbrev b39 : (Nat → Cal) → DS := fun C => sSeq (sAsg 2 (dCl lenV (dCons (shD (dComp [3, 4, 5] (dIt (dVar 0)) (gT [3, 4, 5]) (tst (dBin leV (dVar 5) (dVar 1))) (dK (.int 1)))) (dNil)))) (sSeq (sAsg 6 (dCl lenV (dCons (shD (dComp [3, 4, 5] (dIt (dVar 0)) (gT [3, 4, 5]) (tst (dBin gtV (dVar 4) (dVar 1))) (dK (.int 1)))) (dNil)))) (sRet (dCl min2 (dCons (dVar 2) (dCons (dVar 6) (dNil))))))
abbrev d39 : Df := ⟨2, 7, b39⟩
/-- most_crossed(folk) -/
abbrev b40 : (Nat → Cal) → DS := fun C => sRet (dComp [1] (dRng1 (dCons (dK (.int 40)) (dNil))) (gN 1) (yes) (shD (dBin mulV (dK (.int 2)) (shD (dDef (C 39) (vCons (dVar 0) (vCons (dVar 1) (vNil))))))))
abbrev d40 : Df := ⟨1, 2, b40⟩
/-- most(folk) -/
abbrev b41 : (Nat → Cal) → DS := fun C => sRet (dCl sumC (dCons (shD (dDef (C 40) (vCons (dVar 0) (vNil)))) (dNil)))
abbrev d41 : Df := ⟨1, 1, b41⟩
/-- _law_orders(names) -/
abbrev b43 : (Nat → Cal) → DS := fun C => sSeq (sIf (tst (dBin eqV (dVar 0) (shD (dLst (dNil))))) (sRet (dLst (dCons (dTup (dNil)) (dNil)))) (sNil)) (sSeq (sAsg 1 (dLst (dNil))) (sSeq (sFor (dEnum (dVar 0)) (gT [2, 3]) (sAsg 1 (dBin addV (dVar 1) (shD (dComp [4] (dIt (shD (dDef (C 43) (vCons (shD (dBin addV (shD (dSl (dVar 0) (oNone) (oSome (dVar 2)))) (shD (dSl (dVar 0) (oSome (shD (dBin addV (dVar 2) (dK (.int 1))))) (oNone))))) (vNil))))) (gN 4) (yes) (shD (dBin addV (dTup (dCons (dVar 3) (dNil))) (dVar 4)))))))) (sRet (vD (dVar 1)))))
abbrev d43 : Df := ⟨1, 5, b43⟩
/-- _law_round_orders(folk) -/
abbrev b44 : (Nat → Cal) → DS := fun C => sSeq (sAsg 1 (dDef (C 19) (vCons (dVar 0) (vNil)))) (sRet (dComp [2] (dIt (shD (dDef (C 43) (vCons (shD (dSl (dVar 1) (oSome (dK (.int 1))) (oNone))) (vNil))))) (gN 2) (yes) (shD (dBin addV (dTup (dCons (shD (dBin ixV (dVar 1) (dK (.int 0)))) (dNil))) (dVar 2)))))
abbrev d44 : Df := ⟨1, 3, b44⟩
/-- names_of(folk) -/
abbrev b46 : (Nat → Cal) → DS := fun C => sRet (dComp [1] (dIt (dVar 0)) (gN 1) (yes) (shD (dBin ixV (dVar 1) (dK (.int 0)))))
abbrev d46 : Df := ⟨1, 2, b46⟩
/-- greatest_low(folk) -/
abbrev b47 : (Nat → Cal) → DS := fun C => sRet (dCl maxL (dCons (shD (dComp [1, 2, 3] (dIt (dVar 0)) (gT [1, 2, 3]) (yes) (dVar 2))) (dNil)))
abbrev d47 : Df := ⟨1, 4, b47⟩
/-- least_high(folk) -/
abbrev b48 : (Nat → Cal) → DS := fun C => sRet (dCl minL (dCons (shD (dComp [1, 2, 3] (dIt (dVar 0)) (gT [1, 2, 3]) (yes) (dVar 3))) (dNil)))
abbrev d48 : Df := ⟨1, 4, b48⟩
/-- least(folk) -/
abbrev b49 : (Nat → Cal) → DS := fun C => sRet (dBin mulV (dK (.int 2)) (shD (dCl max2 (dCons (dK (.int 0)) (dCons (shD (dBin subV (shD (dDef (C 47) (vCons (dVar 0) (vNil)))) (shD (dDef (C 48) (vCons (dVar 0) (vNil)))))) (dNil))))))
abbrev d49 : Df := ⟨1, 1, b49⟩
/-- orders(names) -/
abbrev b51 : (Nat → Cal) → DS := fun C => sSeq (sAsg 1 (dLst (dCons (shD (dSl (dVar 0) (oNone) (oSome (dK (.int 1))))) (dNil)))) (sSeq (sFor (dIt (shD (dSl (dVar 0) (oSome (dK (.int 1))) (oNone)))) (gN 2) (sAsg 1 (dComp2 [3, 4] [4] (dIt (dVar 1)) (gN 3) (yes) (dRng2 (dCons (dK (.int 1)) (dCons (shD (dBin addV (shD (dCl lenV (dCons (dVar 3) (dNil)))) (dK (.int 1)))) (dNil)))) (gN 4) (yes) (shD (dBin addV (shD (dBin addV (shD (dSl (dVar 3) (oNone) (oSome (dVar 4)))) (shD (dLst (dCons (dVar 2) (dNil)))))) (shD (dSl (dVar 3) (oSome (dVar 4)) (oNone)))))))) (sRet (vD (dVar 1))))
abbrev d51 : Df := ⟨1, 5, b51⟩
/-- most_by(folk, name) -/
abbrev b54 : (Nat → Cal) → DS := fun C => sSeq (sAsg 2 (dBin ixV (shD (dComp [3] (dIt (dVar 0)) (gN 3) (tst (dBin eqV (shD (dBin ixV (dVar 3) (dK (.int 0)))) (dVar 1))) (dVar 3))) (dK (.int 0)))) (sSeq (sAsg 4 (dComp [3] (dIt (dVar 0)) (gN 3) (tst (dBin neV (shD (dBin ixV (dVar 3) (dK (.int 0)))) (dVar 1))) (dVar 3))) (sSeq (sIf (tst (dBin eqV (dVar 4) (shD (dLst (dNil))))) (sRet (vD (dK (.int 0)))) (sNil)) (sRet (dCl max3 (dCons (dK (.int 0)) (dCons (shD (dBin subV (shD (dBin ixV (dVar 2) (dK (.int 1)))) (shD (dDef (C 48) (vCons (dVar 4) (vNil)))))) (dCons (shD (dBin subV (shD (dDef (C 47) (vCons (dVar 4) (vNil)))) (shD (dBin ixV (dVar 2) (dK (.int 2)))))) (dNil))))))))
abbrev d54 : Df := ⟨2, 5, b54⟩
/-- onlookers(folk) -/
abbrev b55 : (Nat → Cal) → DS := fun C => sRet (dCl tupC (dCons (shD (dComp [1] (dIt (shD (dDef (C 46) (vCons (dVar 0) (vNil))))) (gN 1) (tst (dBin eqV (shD (dDef (C 54) (vCons (dVar 0) (vCons (dVar 1) (vNil))))) (dK (.int 0)))) (dVar 1))) (dNil)))
abbrev d55 : Df := ⟨1, 2, b55⟩
/-- known(folk) -/
abbrev b57 : (Nat → Cal) → DS := fun C => sSeq (sAsg 1 (dDef (C 46) (vCons (dVar 0) (vNil)))) (sSeq (sFor (dIt (shD (dBin addV (shD (dComp [3] (dIt (dVar 1)) (gN 3) (yes) (shD (dLst (dCons (dVar 3) (dNil)))))) (shD (dComp2 [4, 5] [5] (dIt (dVar 1)) (gN 4) (yes) (dIt (dVar 1)) (gN 5) (yes) (shD (dLst (dCons (dVar 4) (dCons (dVar 5) (dNil)))))))))) (gN 2) (sSeq (sUnp (gT [6, 7]) (shD (dDef (C 18) (vCons (dVar 0) (vCons (dVar 2) (vNil)))))) (sIf (tst (dBin eqV (dVar 6) (dVar 7))) (sRet (vD (dVar 2))) (sNil)))) (sRet (vD (dK .none))))
abbrev d57 : Df := ⟨1, 8, b57⟩
/-- suits_all(folk) -/
abbrev b58 : (Nat → Cal) → DS := fun C => sSeq (sPar [1, 2] (wCons (shD (dDef (C 47) (vCons (dVar 0) (vNil)))) (wCons (shD (dDef (C 48) (vCons (dVar 0) (vNil)))) (wNil)))) (sRet (vD (dif (tst (dBin leV (dVar 1) (dVar 2))) (dTup (dCons (dVar 1) (dCons (dVar 2) (dNil)))) (dK .none))))
abbrev d58 : Df := ⟨1, 3, b58⟩
/-- at_home(folk) -/
abbrev b59 : (Nat → Cal) → DS := fun C => sSeq (sAsgO 1 (dLst (dNil))) (sSeq (sFor (dRng1 (dCons (shD (dBin addV (dK (.int 40)) (dK (.int 1)))) (dNil))) (gN 2) (sSeq (sAsg 3 (dCl tupC (dCons (shD (dComp [4, 5, 6] (dIt (dVar 0)) (gT [4, 5, 6]) (tnot (tstD (dChn leV leV (dVar 5) (dVar 2) (dVar 6)))) (dVar 4))) (dNil)))) (sMut 1 appV (dCons (dTup (dCons (shD (dCl lenV (dCons (dVar 3) (dNil)))) (dCons (dVar 3) (dNil)))) (dNil))))) (sRet (dBin ixV (shD (dCl minL (dCons (dBor 1) (dNil)))) (dK (.int 1)))))
abbrev d59 : Df := ⟨1, 7, b59⟩
/-- widened(folk) -/
abbrev b60 : (Nat → Cal) → DS := fun C => sRet (dCl max2 (dCons (dK (.int 0)) (dCons (shD (dBin fdivV (shD (dBin addV (shD (dBin subV (shD (dDef (C 47) (vCons (dVar 0) (vNil)))) (shD (dDef (C 48) (vCons (dVar 0) (vNil)))))) (dK (.int 1)))) (dK (.int 2)))) (dNil))))
abbrev d60 : Df := ⟨1, 1, b60⟩
/-- _law_known(folk) -/
abbrev b61 : (Nat → Cal) → DS := fun C => sSeq (sAsg 1 (dDef (C 19) (vCons (dVar 0) (vNil)))) (sSeq (sAsg 2 (dLst (dCons (shD (dLst (dNil))) (dNil)))) (sSeq (sFor (dRng1 (dCons (dK (.int 3)) (dNil))) (gN 3) (sSeq (sAsg 4 (dLst (dNil))) (sSeq (sFor (dIt (dVar 2)) (gN 5) (sAsg 4 (dBin addV (dVar 4) (shD (dComp [6] (dIt (dVar 1)) (gN 6) (yes) (shD (dBin addV (dVar 5) (shD (dLst (dCons (dVar 6) (dNil))))))))))) (sSeq (sAsg 2 (vD (dVar 4))) (sFor (dIt (dVar 2)) (gN 5) (sIf (tst (dBin eqV (shD (dBin ixV (shD (dDef (C 21) (vCons (dVar 0) (vCons (dK (.int 0)) (vCons (dVar 5) (vNil)))))) (dNeg (dK (.int 1))))) (shD (dBin ixV (shD (dDef (C 21) (vCons (dVar 0) (vCons (dK (.int 40)) (vCons (dVar 5) (vNil)))))) (dNeg (dK (.int 1))))))) (sRet (vD (dVar 5))) (sNil))))))) (sRet (vD (dK .none)))))
abbrev d61 : Df := ⟨1, 7, b61⟩
/-- _law_lots(names) -/
abbrev b62 : (Nat → Cal) → DS := fun C => sSeq (sAsg 1 (dLst (dCons (dTup (dNil)) (dNil)))) (sSeq (sFor (dIt (dVar 0)) (gN 2) (sAsg 1 (dBin addV (dVar 1) (shD (dComp [3] (dIt (dVar 1)) (gN 3) (yes) (shD (dBin addV (dVar 3) (dTup (dCons (dVar 2) (dNil)))))))))) (sRet (dComp [4, 3] (dIt (shD (dCl srtC (dCons (shD (dComp [3] (dIt (dVar 1)) (gN 3) (yes) (dTup (dCons (shD (dCl lenV (dCons (dVar 3) (dNil)))) (dCons (dVar 3) (dNil)))))) (dNil))))) (gT [4, 3]) (yes) (dVar 3))))
abbrev d62 : Df := ⟨1, 5, b62⟩
/-- _law_all_suited(folk, more, degree) -/
abbrev b63 : (Nat → Cal) → DS := fun C => sRet (dBin eqV (shD (dComp [3, 4, 5] (dIt (dVar 0)) (gT [3, 4, 5]) (tnot (tstD (dChn leV leV (shD (dBin subV (dVar 4) (dVar 1))) (dVar 2) (shD (dBin addV (dVar 5) (dVar 1)))))) (dK (.int 1)))) (shD (dLst (dNil))))
abbrev d63 : Df := ⟨3, 6, b63⟩
/-- _law_first_home(folk) -/
abbrev b64 : (Nat → Cal) → DS := fun C => sSeq (sFor (dIt (shD (dDef (C 62) (vCons (shD (dDef (C 19) (vCons (dVar 0) (vNil)))) (vNil))))) (gN 1) (sSeq (sAsg 2 (dComp [3] (dIt (dVar 0)) (gN 3) (tst (dBin niV (shD (dBin ixV (dVar 3) (dK (.int 0)))) (dVar 1))) (dVar 3))) (sIf (tst (dBin neV (shD (dComp [4] (dRng1 (dCons (dK (.int 41)) (dNil))) (gN 4) (tst (dDef (C 63) (vCons (dVar 2) (vCons (dK (.int 0)) (vCons (dVar 4) (vNil)))))) (dVar 4))) (shD (dLst (dNil))))) (sRet (vD (dVar 1))) (sNil)))) (sRet (vD (dK .none)))
abbrev d64 : Df := ⟨1, 5, b64⟩
/-- _law_turned_over(folk) -/
abbrev b66 : (Nat → Cal) → DS := fun C => sRet (dCl tupC (dCons (shD (dComp [1, 2, 3] (dIt (dVar 0)) (gT [1, 2, 3]) (yes) (dTup (dCons (dVar 1) (dCons (shD (dBin subV (dK (.int 40)) (dVar 3))) (dCons (shD (dBin subV (dK (.int 40)) (dVar 2))) (dNil))))))) (dNil)))
abbrev d66 : Df := ⟨1, 4, b66⟩
/-- _law_changed_right(tape, folk, order) -/
abbrev b67 : (Nat → Cal) → DS := fun C => sSeq (sAsg 3 (dDef (C 4) (vTap 0 (vCons (shD (dCl lenV (dCons (dVar 1) (dNil)))) (vNil))))) (sSeq (sUnp (gT [4, 5, 6]) (shD (dBin ixV (dVar 1) (dVar 3)))) (sSeq (sAsg 7 (vD (dTup (dCons (dVar 4) (dCons (shD (dDef (C 4) (vTap 0 (vCons (shD (dBin addV (dVar 5) (dK (.int 1)))) (vNil))))) (dCons (shD (dBin addV (dVar 6) (shD (dDef (C 4) (vTap 0 (vCons (shD (dBin subV (dK (.int 41)) (dVar 6))) (vNil))))))) (dNil))))))) (sSeq (sAsg 8 (dBin addV (shD (dSl (dVar 1) (oNone) (oSome (dVar 3)))) (shD (dSl (dVar 1) (oSome (shD (dBin addV (dVar 3) (dK (.int 1))))) (oNone))))) (sSeq (sAsg 9 (dBin addV (shD (dBin addV (shD (dSl (dVar 1) (oNone) (oSome (dVar 3)))) (dTup (dCons (dVar 7) (dNil))))) (shD (dSl (dVar 1) (oSome (shD (dBin addV (dVar 3) (dK (.int 1))))) (oNone))))) (sSeq (sFor (dIt (shD (dLst (dCons (dVar 9) (dCons (dVar 8) (dNil)))))) (gN 10) (sIf (tst (dBin neV (dVar 10) (dTup (dNil)))) (sSeq (sIf (tor (tst (dBin gtV (shD (dDef (C 41) (vCons (dVar 10) (vNil)))) (shD (dDef (C 41) (vCons (dVar 1) (vNil)))))) (tst (dBin gtV (shD (dDef (C 49) (vCons (dVar 10) (vNil)))) (shD (dDef (C 49) (vCons (dVar 1) (vNil))))))) (sRet (vD (dK (.bool false)))) (sNil)) (sSeq (sIf (tst (dBin gtV (shD (dCl lenV (dCons (shD (dDef (C 59) (vCons (dVar 10) (vNil)))) (dNil)))) (shD (dCl lenV (dCons (shD (dDef (C 59) (vCons (dVar 1) (vNil)))) (dNil)))))) (sRet (vD (dK (.bool false)))) (sNil)) (sIf (tst (dBin neV (shD (dComp [11, 12] (dZip (shD (dDef (C 40) (vCons (dVar 10) (vNil)))) (shD (dDef (C 40) (vCons (dVar 1) (vNil))))) (gT [11, 12]) (tst (dBin gtV (dVar 11) (dVar 12))) (dK (.int 1)))) (shD (dLst (dNil))))) (sRet (vD (dK (.bool false)))) (sNil)))) (sNil))) (sRet (vD (dand (shD (dBin leV (shD (dDef (C 28) (vCons (dVar 9) (vCons (dVar 2) (vNil))))) (shD (dDef (C 41) (vCons (dVar 1) (vNil)))))) (shD (dBin leV (shD (dDef (C 60) (vCons (dVar 9) (vNil)))) (shD (dDef (C 60) (vCons (dVar 1) (vNil))))))))))))))
abbrev d67 : Df := ⟨3, 13, b67⟩
end Pv
namespace Pv
open PySem L2 PySem.Spec PyProof.Rows
/-- amounts(folk) -/
abbrev b52 : (Nat → Cal) → DS := fun C => sRet (dsortedM (dDc [1] (dIt (shD (dDef (C 51) (vCons (shD (dDef (C 46) (vCons (dVar 0) (vNil)))) (vNil))))) (gN 1) (yes) (shD (dDef (C 28) (vCons (dVar 0) (vCons (shD (dCl tupC (dCons (dVar 1) (dNil)))) (vNil))))) (dK (.bool true))))
abbrev d52 : Df := ⟨1, 2, b52⟩
end Pv
namespace Pv
open PySem L2 PySem.Spec PyProof.Rows
abbrev bl : (Nat → Cal) → DS := fun C => sSeq (sFor (dRng1 (dCons (dK (.int 3)) (dNil))) (gN 2) (sSeq (sAsg 3 (dDef (C 12) (vTap 1 (vCons (dK (.int 6)) (vNil))))) (sSeq (sPar [4, 5] (wCons (shD (dDef (C 31) (vTap 1 (vCons (dVar 3) (vNil))))) (wCons (shD (dDef (C 66) (vCons (dVar 3) (vNil)))) (wNil)))) (sSeq (sIf (tor (tst (dBin neV (shD (dDef (C 36) (vCons (dVar 5) (vCons (dVar 4) (vNil))))) (shD (dRev (shD (dDef (C 36) (vCons (dVar 3) (vCons (dVar 4) (vNil))))))))) (tst (dBin neV (shD (dDef (C 37) (vCons (dVar 5) (vCons (dVar 4) (vNil))))) (shD (dDef (C 37) (vCons (dVar 3) (vCons (dVar 4) (vNil)))))))) (sRet (vD (dK (.bool false)))) (sNil)) (sSeq (sIf (tor (tst (dBin neV (shD (dDef (C 40) (vCons (dVar 5) (vNil)))) (shD (dRev (shD (dDef (C 40) (vCons (dVar 3) (vNil)))))))) (tst (dBin neV (shD (dDef (C 49) (vCons (dVar 5) (vNil)))) (shD (dDef (C 49) (vCons (dVar 3) (vNil))))))) (sRet (vD (dK (.bool false)))) (sNil)) (sSeq (sIf (tor (tst (dBin neV (shD (dDef (C 52) (vCons (dVar 5) (vNil)))) (shD (dDef (C 52) (vCons (dVar 3) (vNil)))))) (tst (dBin neV (shD (dDef (C 55) (vCons (dVar 5) (vNil)))) (shD (dDef (C 55) (vCons (dVar 3) (vNil))))))) (sRet (vD (dK (.bool false)))) (sNil)) (sSeq (sIf (tor (tst (dBin neV (shD (dDef (C 59) (vCons (dVar 5) (vNil)))) (shD (dDef (C 59) (vCons (dVar 3) (vNil)))))) (tst (dBin neV (shD (dDef (C 60) (vCons (dVar 5) (vNil)))) (shD (dDef (C 60) (vCons (dVar 3) (vNil))))))) (sRet (vD (dK (.bool false)))) (sNil)) (sSeq (sAsg 6 (dDef (C 4) (vTap 1 (vCons (shD (dBin subV (dK (.int 41)) (shD (dCl maxL (dCons (shD (dComp [7, 8, 9] (dIt (dVar 3)) (gT [7, 8, 9]) (yes) (dVar 9))) (dNil)))))) (vNil))))) (sSeq (sAsg 10 (dCl tupC (dCons (shD (dComp [7, 8, 9] (dIt (dVar 3)) (gT [7, 8, 9]) (yes) (dTup (dCons (shD (dBin addV (dK (.str ("x" : Str))) (dVar 7))) (dCons (shD (dBin addV (dVar 8) (dVar 6))) (dCons (shD (dBin addV (dVar 9) (dVar 6))) (dNil))))))) (dNil)))) (sSeq (sAsg 11 (dCl tupC (dCons (shD (dComp [7] (dIt (dVar 4)) (gN 7) (yes) (shD (dBin addV (dK (.str ("x" : Str))) (dVar 7))))) (dNil)))) (sSeq (sIf (tor (tst (dBin neV (shD (dDef (C 28) (vCons (dVar 10) (vCons (dVar 11) (vNil))))) (shD (dDef (C 28) (vCons (dVar 3) (vCons (dVar 4) (vNil))))))) (tst (dBin neV (shD (dDef (C 52) (vCons (dVar 10) (vNil)))) (shD (dDef (C 52) (vCons (dVar 3) (vNil))))))) (sRet (vD (dK (.bool false)))) (sNil)) (sSeq (sIf (tor (tst (dBin neV (shD (dDef (C 41) (vCons (dVar 10) (vNil)))) (shD (dDef (C 41) (vCons (dVar 3) (vNil)))))) (tst (dBin neV (shD (dDef (C 55) (vCons (dVar 10) (vNil)))) (shD (dCl tupC (dCons (shD (dComp [7] (dIt (shD (dDef (C 55) (vCons (dVar 3) (vNil))))) (gN 7) (yes) (shD (dBin addV (dK (.str ("x" : Str))) (dVar 7))))) (dNil))))))) (sRet (vD (dK (.bool false)))) (sNil)) (sIf (tnot (tst (dDef (C 67) (vTap 1 (vCons (dVar 3) (vCons (dVar 4) (vNil))))))) (sRet (vD (dK (.bool false)))) (sNil)))))))))))))) (sRet (vD (dK (.bool true))))
def tb : Nat → Option Df
  | 15 => some d15
  | 16 => some d16
  | 17 => some d17
  | 26 => some d26
  | 28 => some d28
  | 35 => some d35
  | 36 => some d36
  | 37 => some d37
  | 46 => some d46
  | 47 => some d47
  | 48 => some d48
  | 39 => some d39
  | 40 => some d40
  | 41 => some d41
  | 49 => some d49
  | 51 => some d51
  | 52 => some d52
  | 54 => some d54
  | 55 => some d55
  | 59 => some d59
  | 60 => some d60
  | 4 => some d4
  | 30 => some d30
  | 12 => some d12
  | 31 => some d31
  | 66 => some d66
  | 67 => some d67
  | _ => none
end Pv
namespace Pv
open PySem L2 PySem.Spec PyProof.Rows
section
variable {α β : Type} {a : α} {τ τ' : Tp} {env : Ev} {i j : Nat} {d x y : D} {f k m : DD} {F G : DE} {ct : DT} {ka : DA} {kv : DV} {kw : DW} {s t : DS} {C : Cal} {it : DI} {b : DG}
@[simp] theorem bnd_s {k : α → Tp → Option β} : bnd (some (a, τ)) k = k a τ := rfl
@[simp] theorem dK_s : dK d env τ = some (d, τ) := rfl
@[simp] theorem dVar_s : dVar i env τ = (match env[i]? with
  | some (some (.sh d)) => some (d, τ)
  | _ => none) := rfl
@[simp] theorem dBor_s : dBor i env τ = (match env[i]? with
  | some (some (.sh d)) => some (d, τ)
  | some (some (.ow ds)) => some (.list ds, τ)
  | _ => none) := rfl
@[simp] theorem dTap_s : dTap i env τ = (match env[i]? with
  | some (some .tp) => some (.tp, τ)
  | _ => none) := rfl
@[simp] theorem dMb_s : dMb i env τ = (match env[i]? with
  | some (some v) => some (v, τ)
  | _ => none) := rfl
@[simp] theorem vD_s : vD f env τ = bnd (f env τ) fun d τ' => some (.sh d, τ') := rfl
@[simp] theorem shD_s : shD F env τ = bnd (F env τ) fun v τ' => match v with
  | .sh d => some (d, τ')
  | .ow ds => some (.list ds, τ')
  | _ => none := rfl
@[simp] theorem dNil_s : dNil env τ = some ([], τ) := rfl
@[simp] theorem dCons_s : dCons f ka env τ = bnd (f env τ) fun x τ1 => bnd (ka env τ1) fun xs τ2 => some (x :: xs, τ2) := rfl
@[simp] theorem vNil_s : vNil env τ = some ([], τ) := rfl
@[simp] theorem vCons_s : vCons f kv env τ = bnd (f env τ) fun x τ1 => bnd (kv env τ1) fun xs τ2 => some (.sh x :: xs, τ2) := rfl
@[simp] theorem vTap_s : vTap i kv env τ = bnd (dTap i env τ) fun _ τ1 => bnd (kv env τ1) fun xs τ2 => some (.tp :: xs, τ2) := rfl
@[simp] theorem wNil_s : wNil env τ = some ([], τ) := rfl
@[simp] theorem wCons_s : wCons f kw env τ = bnd (f env τ) fun x τ1 => bnd (kw env τ1) fun xs τ2 => some (.sh x :: xs, τ2) := rfl
@[simp] theorem wConsO_s : wConsO F kw env τ = bnd (F env τ) fun x τ1 => bnd (kw env τ1) fun xs τ2 => if x.own = true then some (x :: xs, τ2) else none := rfl
@[simp] theorem dTup_s : dTup ka env τ = bnd (ka env τ) fun xs τ' => if xs.length ≤ 1000 then some (.tuple xs, τ') else none := rfl
@[simp] theorem dLst_s : dLst ka env τ = bnd (ka env τ) fun xs τ' => if xs.length ≤ 1000 then some (.ow xs, τ') else none := rfl
@[simp] theorem dBin_s {o : D → D → Option Vl} : dBin o f k env τ = bnd (f env τ) fun x τ1 => bnd (k env τ1) fun y τ2 => (o x y).map (·, τ2) := rfl
@[simp] theorem dCl_s {o : List D → Option Vl} : dCl o ka env τ = bnd (ka env τ) fun ds τ1 => (o ds).map (·, τ1) := rfl
@[simp] theorem dDef_s : dDef C kv env τ = bnd (kv env τ) fun as τ1 => C as τ1 := rfl
@[simp] theorem dDefB_s : dDefB C ka env τ = bnd (ka env τ) fun as τ1 => bnd (C (as.map .sh) τ1) fun v τ2 => if flat v = true then some (v, τ2) else none := rfl
@[simp] theorem dNeg_s : dNeg f env τ = bnd (f env τ) fun x τ1 => match x with
  | .int i => some (.int (-i), τ1)
  | _ => none := rfl
@[simp] theorem dTapIx_s : dTapIx i j env τ = (match env[i]? with
  | some (some .tp) => match j with
    | 0 => some (.list (τ.sc.map .int), τ)
    | 1 => some (.int τ.pos, τ)
    | 2 => some (.int τ.cell, τ)
    | _ => none
  | _ => none) := rfl
@[simp] theorem oNone_s : oNone env τ = some (none, τ) := rfl
@[simp] theorem oSome_s : oSome f env τ = bnd (f env τ) fun x τ1 => match x with
  | .int i => some (some i, τ1)
  | _ => none := rfl
@[simp] theorem dSl_s {l h : DO} : dSl f l h env τ = bnd (f env τ) fun x τ1 => bnd (l env τ1) fun lo τ2 => bnd (h env τ2) fun hi τ3 => (slD x lo hi).map (·, τ3) := rfl
@[simp] theorem tst_s : tst F env τ = bnd (F env τ) fun v τ' => match v with
  | .sh (.bool b) => some (b, τ')
  | _ => none := rfl
@[simp] theorem tstD_s : tstD f env τ = bnd (f env τ) fun v τ' => match v with
  | .bool b => some (b, τ')
  | _ => none := rfl
@[simp] theorem dChn_s {o1 o2 : D → D → Option Vl} : dChn o1 o2 f k m env τ = bnd (f env τ) fun x τ1 => bnd (k env τ1) fun y τ2 => match o1 x y with
  | some (.sh (.bool true)) => bnd (m env τ2) fun z τ3 => match o2 y z with
    | some (.sh (.bool c)) => some (.bool c, τ3)
    | _ => none
  | some (.sh (.bool false)) => some (.bool false, τ2)
  | _ => none := rfl
@[simp] theorem tnot_s : tnot ct env τ = bnd (ct env τ) fun b τ' => some (!b, τ') := rfl
@[simp] theorem tand_s {c2 : DT} : tand ct c2 env τ = bnd (ct env τ) fun b τ' => if b = true then c2 env τ' else some (false, τ') := rfl
@[simp] theorem tor_s {c2 : DT} : tor ct c2 env τ = bnd (ct env τ) fun b τ' => if b = true then some (true, τ') else c2 env τ' := rfl
@[simp] theorem dnot_s : dnot ct env τ = bnd (ct env τ) fun b τ' => some (.bool (!b), τ') := rfl
@[simp] theorem dand_s : dand f k env τ = bnd (f env τ) fun x τ' => match x with
  | .bool true => k env τ'
  | .bool false => some (.bool false, τ')
  | _ => none := rfl
@[simp] theorem dor_s : dor f k env τ = bnd (f env τ) fun x τ' => match x with
  | .bool false => k env τ'
  | .bool true => some (.bool true, τ')
  | _ => none := rfl
@[simp] theorem dif_s : dif ct f k env τ = bnd (ct env τ) fun b τ' => if b = true then f env τ' else k env τ' := rfl
@[simp] theorem vif_s : vif ct F G env τ = bnd (ct env τ) fun b τ' => if b = true then F env τ' else G env τ' := rfl
@[simp] theorem dIsi_s {t : Ty} : dIsi t f env τ = bnd (f env τ) fun d τ1 => some (.bool (isB d t), τ1) := rfl
@[simp] theorem dIsi2_s {t u : Ty} : dIsi2 t u f env τ = bnd (f env τ) fun d τ1 => some (.bool (isB d t || isB d u), τ1) := rfl
@[simp] theorem dGet_s : dGet F k env τ = bnd (F env τ) fun v τ1 => bnd (k env τ1) fun d τ2 => match getM v d with
  | some (some x) => some (x, τ2)
  | _ => none := rfl
@[simp] theorem dHas_s {n : Bool} : dHas n k F env τ = bnd (k env τ) fun d τ1 => bnd (F env τ1) fun v τ2 => match getM v d with
  | some o => some (.bool (o.isSome != n), τ2)
  | none => none := rfl
@[simp] theorem dNewK_s : dNewK env τ = some (.dk [], τ) := rfl
@[simp] theorem dDisp1_s : dDisp1 k f env τ = bnd (k env τ) fun d τ1 => bnd (f env τ1) fun x τ2 => match keyD d with
  | some c => some (.dk [(c, x)], τ2)
  | none => none := rfl
@[simp] theorem dDictL_s : dDictL f env τ = bnd (f env τ) fun d τ1 => match d with
  | .list ds => match pairsK ds with
    | some prs => some (.dk (mergeD [] prs), τ1)
    | none => none
  | _ => none := rfl
@[simp] theorem dLenM_s : dLenM F env τ = bnd (F env τ) fun v τ1 => match v with
  | .dk kvs => some (.int kvs.length, τ1)
  | _ => none := rfl
@[simp] theorem dIt_s : dIt f env τ = bnd (f env τ) fun d τ' => match d with
  | .list ds => some (ds, τ')
  | .tuple ds => some (ds, τ')
  | .str z => if z.cps.size ≤ 16777216 then some (signs z, τ') else none
  | _ => none := rfl
@[simp] theorem dZip_s : dZip f k env τ = bnd (f env τ) fun x τ1 => bnd (k env τ1) fun y τ2 => match itemsD x, itemsD y with
  | some xs, some ys => some (zipD xs ys, τ2)
  | _, _ => none := rfl
@[simp] theorem dRng1_s : dRng1 ka env τ = bnd (ka env τ) fun ds τ' => match ds with
  | [.int j] => if j ≤ 16777216 ∧ -16777216 ≤ j then some (rngL 0 j.toNat, τ') else none
  | _ => none := rfl
@[simp] theorem dRng2_s : dRng2 ka env τ = bnd (ka env τ) fun ds τ' => match ds with
  | [.int i, .int j] => if j ≤ 16777216 ∧ -16777216 ≤ j ∧ i ≤ 16777216 ∧ -16777216 ≤ i ∧ j - i ≤ 16777216 then some (rngL i (j - i).toNat, τ') else none
  | _ => none := rfl
@[simp] theorem yes_s : yes env τ = some (true, τ) := rfl
@[simp] theorem gN_s : gN i d env = some (env.set i (some (.sh d))) := rfl
@[simp] theorem gT_s {is : List Nat} : gT is d env = (match d with
  | .tuple ds => if ds.length = is.length then some ((is.zip ds).foldl (fun e p => e.set p.1 (some (.sh p.2))) env) else none
  | _ => none) := rfl
@[simp] theorem dComp_s {vs : List Nat} {c : DT} {e : DD} : dComp vs it b c e env τ = bnd (it env τ) fun ds τ1 => bnd (compL b c e ds (wipeE env vs) τ1) fun ys τ2 => some (.ow ys, τ2) := rfl
@[simp] theorem dDc_s {vs : List Nat} {c : DT} {k e : DD} : dDc vs it b c k e env τ = bnd (it env τ) fun ds τ1 => bnd (dcL b c k e ds [] (wipeE env vs) τ1) fun kvs τ2 => some (.dk kvs, τ2) := rfl
/- statements -/
@[simp] theorem sNil_s : sNil env τ = some (.nx env, τ) := rfl
@[simp] theorem sSeq_s : sSeq s t env τ = bnd (s env τ) fun o τ' => match o with
  | .nx env' => t env' τ'
  | o => some (o, τ') := rfl
@[simp] theorem sIf_s : sIf ct s t env τ = bnd (ct env τ) fun x τ' => if x = true then s env τ' else t env τ' := rfl
@[simp] theorem sRet_s : sRet F env τ = bnd (F env τ) fun v τ' => match v with
  | .tp => none
  | v => some (.rt v, τ') := rfl
@[simp] theorem sRetO_s : sRetO i env τ = (match env[i]? with
  | some (some .tp) => none
  | some (some v) => some (.rt v, τ)
  | _ => none) := rfl
@[simp] theorem sAsg_s : sAsg i F env τ = bnd (shD F env τ) fun d τ' => some (.nx (env.set i (some (.sh d))), τ') := rfl
@[simp] theorem sAsgO_s : sAsgO i F env τ = bnd (F env τ) fun v τ' => if v.own = true then some (.nx (env.set i (some v)), τ') else none := rfl
@[simp] theorem sUnp_s : sUnp b f env τ = bnd (f env τ) fun d τ' => (b d env).map fun env' => (.nx env', τ') := rfl
@[simp] theorem sPar_s {is : List Nat} : sPar is kw env τ = bnd (kw env τ) fun vs τ' => if vs.length = is.length then some (.nx (setV is vs env), τ') else none := rfl
@[simp] theorem frz_s : frz i s env τ = (match env[i]? with
  | some (some (.ow ds)) => s (env.set i (some (.sh (.list ds)))) τ
  | _ => s env τ) := rfl
@[simp] theorem sMut_s {mV : List D → List D → Option (List D)} : sMut i mV ka env τ = bnd (ka env τ) fun as τ' => match env[i]? with
  | some (some (.ow ds)) => match mV ds as with
    | some ds' => some (.nx (env.set i (some (.ow ds'))), τ')
    | none => none
  | _ => none := rfl
@[simp] theorem sPutM_s : sPutM i f k env τ = bnd (f env τ) fun x τ1 => bnd (k env τ1) fun d τ2 => match env[i]? with
  | some (some v) => match putM v d x with
    | some v' => some (.nx (env.set i (some v')), τ2)
    | none => none
  | _ => none := rfl
@[simp] theorem sFor_s : sFor it b s env τ = bnd (it env τ) fun ds τ1 => forL b s ds env τ1 := rfl
@[simp] theorem own_sh : (Vl.sh d).own = false := rfl
@[simp] theorem own_ow {ds : List D} : (Vl.ow ds).own = true := rfl
@[simp] theorem own_dk {ds : List (Key × D)} : (Vl.dk ds).own = true := rfl
@[simp] theorem setV_nil : setV [] [] env = env := rfl
@[simp] theorem setV_cons {is : List Nat} {v : Vl} {vs : List Vl} : setV (i :: is) (v :: vs) env = setV is vs (env.set i (some v)) := rfl
@[simp] theorem wipeE_nil : wipeE env [] = env := rfl
@[simp] theorem wipeE_cons {vs : List Nat} {v : Nat} : wipeE env (v :: vs) = (wipeE env vs).set v none := rfl
end
@[simp] theorem add_ii {i j : Int} : addV (.int i) (.int j) = some (.sh (.int (i + j))) := rfl
@[simp] theorem sub_ii {i j : Int} : subV (.int i) (.int j) = some (.sh (.int (i - j))) := rfl
@[simp] theorem le_ii {i j : Int} : leV (.int i) (.int j) = some (.sh (.bool (decide (i ≤ j)))) := rfl
@[simp] theorem gt_ii {i j : Int} : gtV (.int i) (.int j) = some (.sh (.bool (decide (j < i)))) := rfl
@[simp] theorem ge_ii {i j : Int} : geV (.int i) (.int j) = some (.sh (.bool (decide (j ≤ i)))) := rfl
@[simp] theorem max2_ii {i j : Int} : max2 [.int i, .int j] = some (.sh (.int (max i j))) := by
  show some (Vl.sh (.int (if j > i then j else i))) = _
  congr 3; split <;> omega
@[simp] theorem min2_ii {i j : Int} : min2 [.int i, .int j] = some (.sh (.int (min i j))) := by
  show some (Vl.sh (.int (if j < i then j else i))) = _
  congr 3; split <;> omega
@[simp] theorem len_l {xs : List D} : lenV [.list xs] = some (.sh (.int xs.length)) := rfl
@[simp] theorem len_t {xs : List D} : lenV [.tuple xs] = some (.sh (.int xs.length)) := rfl
@[simp] theorem abs_i {i : Int} : absC [.int i] = some (.sh (.int (absI i))) := rfl
@[simp] theorem list_l {xs : List D} : listC [.list xs] = some (.ow xs) := rfl
@[simp] theorem list_t {xs : List D} : listC [.tuple xs] = some (.ow xs) := rfl
@[simp] theorem tup_l {xs : List D} : tupC [.list xs] = some (.sh (.tuple xs)) := rfl
@[simp] theorem tup_t {xs : List D} : tupC [.tuple xs] = some (.sh (.tuple xs)) := rfl
theorem depth_int {i : Int} : (PyData.int i).depth ≤ 60 := by simp [PyData.depth]
@[simp] theorem lt_ii {i j : Int} : ltV (.int i) (.int j) = some (.sh (.bool (decide (i < j)))) := by
  unfold ltV
  rw [if_pos ⟨rfl, rfl, by simp [PyData.depth]⟩, W.dataLt_int]
/-! ### equality -/
mutual
theorem eqv_refl : ∀ d : D, pln d = true → PyData.eqv d d = true
  | .none, _ => rfl
  | .bool b, _ => by simp [PyData.eqv]
  | .int i, _ => by simp [PyData.eqv]
  | .str x, _ => by simp [PyData.eqv]
  | .list xs, h => by rw [PyData.eqv]; exact eqvAll_refl xs h
  | .tuple xs, h => by rw [PyData.eqv]; exact eqvAll_refl xs h
  | .dict _, h => by cases h
theorem eqvAll_refl : ∀ ds : List D, plns ds = true → PyData.eqvAll ds ds = true
  | [], _ => rfl
  | d :: ds, h => by
    have h : (pln d && plns ds) = true := h
    rw [Bool.and_eq_true] at h
    rw [PyData.eqvAll, eqv_refl d h.1, eqvAll_refl ds h.2]
    rfl
end
mutual
/-- no truth, no dict within -/
def nb : D → Bool
  | .none => true | .bool _ => false | .int _ => true | .str _ => true
  | .list xs => nbs xs | .tuple xs => nbs xs
  | .dict _ => false
def nbs : List D → Bool
  | [] => true
  | x :: xs => nb x && nbs xs
end
mutual
theorem eqv_eq : ∀ (d e : D), nb d = true → nb e = true → PyData.eqv d e = true → d = e
  | .none, e, _, he, h => by cases e <;> simp_all [PyData.eqv, nb]
  | .bool b, _, hd, _, _ => by cases hd
  | .int i, e, _, he, h => by cases e <;> simp_all [PyData.eqv, nb]
  | .str x, e, _, he, h => by cases e <;> simp_all [PyData.eqv, nb]
  | .list xs, e, hd, he, h => by
    cases e with
    | list ys => rw [PyData.eqv] at h; rw [eqvAll_eq xs ys hd he h]
    | _ => simp [PyData.eqv] at h
  | .tuple xs, e, hd, he, h => by
    cases e with
    | tuple ys => rw [PyData.eqv] at h; rw [eqvAll_eq xs ys hd he h]
    | _ => simp [PyData.eqv] at h
  | .dict _, _, hd, _, _ => by cases hd
theorem eqvAll_eq : ∀ (ds es : List D), nbs ds = true → nbs es = true → PyData.eqvAll ds es = true → ds = es
  | [], [], _, _, _ => rfl
  | [], _ :: _, _, _, h => by simp [PyData.eqvAll] at h
  | _ :: _, [], _, _, h => by simp [PyData.eqvAll] at h
  | d :: ds, e :: es, hd, he, h => by
    have hd : (nb d && nbs ds) = true := hd
    have he : (nb e && nbs es) = true := he
    rw [Bool.and_eq_true] at hd he
    rw [PyData.eqvAll, Bool.and_eq_true] at h
    rw [eqv_eq d e hd.1 he.1 h.1, eqvAll_eq ds es hd.2 he.2 h.2]
end
mutual
theorem nb_pln : ∀ d : D, nb d = true → pln d = true
  | .none, _ => rfl
  | .bool _, h => by cases h
  | .int _, _ => rfl
  | .str _, _ => rfl
  | .list xs, h => nbs_plns xs h
  | .tuple xs, h => nbs_plns xs h
  | .dict _, h => by cases h
theorem nbs_plns : ∀ ds : List D, nbs ds = true → plns ds = true
  | [], _ => rfl
  | d :: ds, h => by
    have h : (nb d && nbs ds) = true := h
    rw [Bool.and_eq_true] at h
    show (pln d && plns ds) = true
    rw [nb_pln d h.1, nbs_plns ds h.2]
    rfl
end
theorem eqv_iff {d e : D} (hd : nb d = true) (he : nb e = true) : PyData.eqv d e = true ↔ d = e :=
  ⟨eqv_eq d e hd he, fun h => by subst h; exact eqv_refl d (nb_pln d hd)⟩
@[simp] theorem eq_ii {i j : Int} : eqV (.int i) (.int j) = some (.sh (.bool (decide (i = j)))) := by
  unfold eqV
  rw [if_pos (by simp [PyData.depth])]
  simp only [PyData.eqv]
  by_cases h : i = j
  · subst h; simp
  · rw [beq_eq_false_iff_ne.mpr h, decide_eq_false h]
@[simp] theorem ne_ii {i j : Int} : neV (.int i) (.int j) = some (.sh (.bool (decide (i ≠ j)))) := by
  unfold neV
  rw [if_pos (by simp [PyData.depth])]
  simp only [PyData.eqv]
  by_cases h : i = j
  · subst h; simp
  · rw [beq_eq_false_iff_ne.mpr h, decide_eq_true h]
    rfl
theorem eq_true {d : D} (h : pln d = true) (hd : d.depth ≤ 60) : eqV d d = some (.sh (.bool true)) := by
  unfold eqV
  rw [if_pos (by rw [Nat.min_self]; exact hd), eqv_refl d h]
theorem ne_false {d : D} (h : pln d = true) (hd : d.depth ≤ 60) : neV d d = some (.sh (.bool false)) := by
  unfold neV
  rw [if_pos (by rw [Nat.min_self]; exact hd), eqv_refl d h]
  rfl
/-! ### loops -/
theorem forL_ind {b : DG} {body : DS} (I : Nat → Ev → Tp → Prop) : ∀ {ds : List D} {i : Nat} {env : Ev} {τ : Tp}, I i env τ →
    (∀ (j : Nat) d env τ, ds[j]? = some d → I (i + j) env τ → ∃ env1 env2 τ', b d env = some env1 ∧ (body env1 τ = some (.nx env2, τ') ∨ body env1 τ = some (.ct env2, τ')) ∧ I (i + j + 1) env2 τ') →
    ∃ env' τ', forL b body ds env τ = some (.nx env', τ') ∧ I (i + ds.length) env' τ'
  | [], i, env, τ, h0, _ => ⟨env, τ, rfl, h0⟩
  | d :: ds, i, env, τ, h0, step => by
    obtain ⟨env1, env2, τ1, h1, h2, h3⟩ := step 0 d env τ rfl h0
    obtain ⟨env', τ', h4, h5⟩ := forL_ind (b := b) (body := body) I (ds := ds) (i := i + 1) h3 fun j e env τ hj hI => by
      have := step (j + 1) e env τ (by simpa using hj) (by rw [show i + (j + 1) = i + 1 + j by omega]; exact hI)
      rw [show i + (j + 1) + 1 = i + 1 + j + 1 by omega] at this
      exact this
    refine ⟨env', τ', ?_, by rw [List.length_cons, show i + (ds.length + 1) = i + 1 + ds.length by omega]; exact h5⟩
    rcases h2 with h2 | h2
    · rw [forL, h1]
      show bnd (body env1 τ) _ = _
      rw [h2]
      exact h4
    · rw [forL, h1]
      show bnd (body env1 τ) _ = _
      rw [h2]
      exact h4
theorem forL_cons {b : DG} {body : DS} {d : D} {ds : List D} {env env1 : Ev} {τ : Tp} (h : b d env = some env1) : forL b body (d :: ds) env τ = bnd (body env1 τ) fun o τ1 => match o with
      | .nx env2 => forL b body ds env2 τ1
      | .ct env2 => forL b body ds env2 τ1
      | .bk env2 => some (.nx env2, τ1)
      | .rt v => some (.rt v, τ1) := by
  rw [forL, h] <;> rfl
theorem compL_cons {b : DG} {c : DT} {e : DD} {d : D} {ds : List D} {env env1 : Ev} {τ : Tp} (h : b d env = some env1) : compL b c e (d :: ds) env τ = bnd (c env1 τ) fun k τ1 => if k = true then bnd (e env1 τ1) fun y τ2 => bnd (compL b c e ds env τ2) fun ys τ3 => some (y :: ys, τ3) else compL b c e ds env τ1 := by
  rw [compL, h]
@[simp] theorem compL_nil {b : DG} {c : DT} {e : DD} {env : Ev} {τ : Tp} : compL b c e [] env τ = some ([], τ) := rfl
@[simp] theorem forL_nil {b : DG} {body : DS} {env : Ev} {τ : Tp} : forL b body [] env τ = some (.nx env, τ) := rfl
/-- a comprehension that leaves the tape -/
theorem compL_pure {b : DG} {c : DT} {e : DD} {env : Ev} (p : D → Bool) (f : D → D) : ∀ {ds : List D}, (∀ x ∈ ds, ∃ env1, b x env = some env1 ∧ ∀ τ, c env1 τ = some (p x, τ) ∧ (p x = true → e env1 τ = some (f x, τ))) → ∀ τ, compL b c e ds env τ = some ((ds.filter p).map f, τ)
  | [], _, _ => rfl
  | x :: xs, h, τ => by
    obtain ⟨env1, h1, h2⟩ := h x List.mem_cons_self
    obtain ⟨h3, h4⟩ := h2 τ
    have ih := compL_pure p f (ds := xs) (fun y hy => h y (List.mem_cons_of_mem _ hy)) τ
    rw [compL_cons h1, h3, bnd_s]
    cases hp : p x with
    | true => rw [if_pos rfl, h4 hp, bnd_s, ih, bnd_s, List.filter_cons, if_pos hp, List.map_cons]
    | false => rw [if_neg (by simp), ih, List.filter_cons, if_neg (by rw [hp]; simp)]
theorem compL_map {b : DG} {e : DD} {env : Ev} (f : D → D) {ds : List D} (h : ∀ x ∈ ds, ∃ env1, b x env = some env1 ∧ ∀ τ, e env1 τ = some (f x, τ)) (τ : Tp) : compL b yes e ds env τ = some (ds.map f, τ) := by
  have := compL_pure (b := b) (c := yes) (e := e) (env := env) (fun _ => true) f (ds := ds) (fun x hx => by
    obtain ⟨env1, h1, h2⟩ := h x hx
    exact ⟨env1, h1, fun τ => ⟨rfl, fun _ => h2 τ⟩⟩) τ
  rw [this, List.filter_eq_self.mpr (fun _ _ => rfl)]
end Pv
namespace Pv
open PySem L2 PySem.Spec PyProof.Rows
theorem runF_s {np nn : Nat} {b : DS} {as : List Vl} {τ : Tp} (h : as.length = np) : runF np nn b as τ = bnd (b (startE nn as) τ) fun o τ' => match o with
    | .rt v => some (v, τ')
    | .nx _ => some (.sh .none, τ')
    | _ => none := by
  unfold runF
  rw [if_pos h] <;> rfl
section
variable {tb : Nat → Option Df} {k : Nat}
theorem call_s {i : Nat} {d : Df} {as : List Vl} {τ : Tp} (ht : tb i = some d) (h : as.length = d.np) : callK tb (k + 1) i as τ = bnd (d.body (callK tb k) (startE d.nn as) τ) fun o τ' => match o with
    | .rt v => some (v, τ')
    | .nx _ => some (.sh .none, τ')
    | _ => none := by
  rw [callK_succ ht, runF_s h]
@[simp] theorem mod_ii {i j : Int} (h : 0 < j) : modV (.int i) (.int j) = some (.sh (.int (i % j))) := by
  show (if 0 < j then _ else _) = _
  rw [if_pos h]
theorem fdiv_ii {i j : Int} (h : 0 < j) (h2 : j < 18446744073709551616) : fdivV (.int i) (.int j) = some (.sh (.int (i / j))) := by
  show (if 0 < j ∧ j < 18446744073709551616 then _ else _) = _
  rw [if_pos ⟨h, h2⟩]
theorem mul_l {i j : Int} (h : -18446744073709551616 < i) (h2 : i < 18446744073709551616) : mulV (.int i) (.int j) = some (.sh (.int (i * j))) := by
  show (if (-18446744073709551616 < i ∧ i < 18446744073709551616) ∨ (-18446744073709551616 < j ∧ j < 18446744073709551616) then _ else _) = _
  rw [if_pos (.inl ⟨h, h2⟩)]
theorem startE_s {nn : Nat} {as : List Vl} : startE nn as = as.map some ++ List.replicate (nn - as.length) none := rfl
theorem atI_sc {sc : List Int} {i : Int} (h0 : 0 ≤ i) (h1 : i < sc.length) : ∃ c, L2.atI (sc.map PyData.int) i = some (.int c) := by
  refine ⟨sc[i.toNat]'(by omega), ?_⟩
  have := atI_nat (xs := sc.map PyData.int) (j := i.toNat) (v := .int (sc[i.toNat]'(by omega))) (by rw [List.getElem?_map, List.getElem?_eq_getElem (by omega)]; rfl)
  rw [show ((i.toNat : Nat) : Int) = i by omega] at this
  exact this
abbrev dr0 : DS := sIf (tst (dBin gtV (shD (dCl lenV (dCons (dTapIx 0 0) (dNil)))) (dK (.int 0)))) (sAsg 3 (dBin ixV (dTapIx 0 0) (shD (dBin modV (dTapIx 0 1) (shD (dCl lenV (dCons (dTapIx 0 0) (dNil)))))))) (sNil)
abbrev dr1 : DS := sIf (tst (dBin ltV (dTapIx 0 2) (dVar 1))) (sSeq (sAsg 3 (vD (dK (.int 0)))) (sSeq (dr0) (sSeq (sIf (tor (tst (dBin geV (dTapIx 0 1) (shD (dCl lenV (dCons (dTapIx 0 0) (dNil)))))) (tst (dBin ltV (dVar 3) (shD (dBin powV (dK (.int 10)) (dK (.int 18))))))) (sSeq (sAsg 3 (dBin modV (shD (dBin addV (dVar 3) (shD (dBin mulV (dK (.int 1000003)) (dTapIx 0 1))))) (dVar 2))) (sSeq (sAsg 3 (dBin modV (shD (dBin addV (shD (dBin addV (shD (dBin mulV (dVar 3) (dVar 3))) (shD (dBin mulV (dK (.int 1181783497276652981)) (dVar 3))))) (dK (.int 2049848353892358983)))) (dVar 2))) (sAsg 3 (dBin modV (shD (dBin addV (shD (dBin mulV (dVar 3) (dVar 3))) (dK (.int 1442695040888963407)))) (dVar 2))))) (sNil)) (sSeq (sTap 0 1 (shD (dBin addV (dTapIx 0 1) (dK (.int 1))))) (sTap 0 2 (dVar 3)))))) (sNil)
abbrev dr2 : DS := sSeq (sAsg 4 (dBin modV (dTapIx 0 2) (dVar 1))) (sSeq (sTap 0 2 (shD (dBin fdivV (dTapIx 0 2) (dVar 1)))) (sRet (vD (dVar 4))))
/-- a number is drawn -/
theorem draw (ht : tb 4 = some d4) {m : Int} (h0 : 0 < m) (h1 : m < 18446744073709551616) (τ : Tp) : ∃ r τ', callK tb (k + 1) 4 [.tp, .sh (.int m)] τ = some (.sh (.int r), τ') ∧ 0 ≤ r ∧ r < m := by
  have fin : ∀ (env : Ev) (τ1 : Tp), env[0]? = some (some .tp) → env[1]? = some (some (.sh (.int m))) → 5 ≤ env.length → ∃ r τ', (bnd (dr2 env τ1) fun o τ' => match o with
    | .rt v => some (v, τ')
    | .nx _ => some (.sh .none, τ')
    | _ => none) = some (.sh (.int r), τ') ∧ 0 ≤ r ∧ r < m := fun env τ1 e0 e1 el => by
    have e2 : (env.set 4 (some (.sh (.int (τ1.cell % m)))))[0]? = some (some .tp) := by rw [List.getElem?_set_ne (by decide)]; exact e0
    have e3 : (env.set 4 (some (.sh (.int (τ1.cell % m)))))[1]? = some (some (.sh (.int m))) := by rw [List.getElem?_set_ne (by decide)]; exact e1
    have e4 : (env.set 4 (some (.sh (.int (τ1.cell % m)))))[4]? = some (some (.sh (.int (τ1.cell % m)))) := List.getElem?_set_self (by omega)
    refine ⟨τ1.cell % m, ⟨τ1.sc, τ1.pos, τ1.cell / m⟩, ?_, Int.emod_nonneg _ (by omega), Int.emod_lt_of_pos _ h0⟩
    simp [e0, e1, mod_ii h0, sTap, e2, e3, e4, fdiv_ii h0 h1]
  have h10 : powV (.int 10) (.int 18) = some (.sh (.int 1000000000000000000)) := by
    show (if (0 : Int) ≤ 18 ∧ (18 : Int) ≤ 1000000 ∧ (10 : Int).natAbs < 18446744073709551616 then some (Vl.sh (.int (10 ^ (18 : Int).toNat))) else none) = _
    rw [if_pos (by decide)]
    rfl
  have mp : ∀ i : Int, modV (.int i) (.int 2305843009213693951) = some (.sh (.int (i % 2305843009213693951))) := fun i => mod_ii (by decide)
  have m1 : ∀ i : Int, mulV (.int 1000003) (.int i) = some (.sh (.int (1000003 * i))) := fun i => mul_l (by decide) (by decide)
  have m2 : ∀ i : Int, mulV (.int 1181783497276652981) (.int i) = some (.sh (.int (1181783497276652981 * i))) := fun i => mul_l (by decide) (by decide)
  have m3 : ∀ i : Int, mulV (.int (i % 2305843009213693951)) (.int (i % 2305843009213693951)) = some (.sh (.int ((i % 2305843009213693951) * (i % 2305843009213693951)))) := fun i => by
    have h1 := Int.emod_nonneg i (b := 2305843009213693951) (by decide)
    have h2 := Int.emod_lt_of_pos i (b := 2305843009213693951) (by decide)
    exact mul_l (by omega) (by omega)
  rw [call_s ht rfl]
  have one : ∃ X τ1, dr1 [some .tp, some (.sh (.int m)), some (.sh (.int 2305843009213693951)), none, none] τ = some (.nx [some .tp, some (.sh (.int m)), some (.sh (.int 2305843009213693951)), X, none], τ1) := by
    by_cases hc : τ.cell < m
    · have inner : ∃ c : Int, dr0 [some .tp, some (.sh (.int m)), some (.sh (.int 2305843009213693951)), some (.sh (.int 0)), none] τ = some (.nx [some .tp, some (.sh (.int m)), some (.sh (.int 2305843009213693951)), some (.sh (.int c)), none], τ) := by
        by_cases hl : 0 < τ.sc.length
        · have hl2 : (0 : Int) < τ.sc.length := by omega
          obtain ⟨c, hc⟩ := atI_sc (sc := τ.sc) (i := τ.pos % (τ.sc.length : Int)) (Int.emod_nonneg _ (by omega)) (Int.emod_lt_of_pos _ hl2)
          exact ⟨c, by simp [hl2, hl, mod_ii hl2, ixV, ixD, hc]⟩
        · exact ⟨0, by simp [hl]⟩
      obtain ⟨c, hi⟩ := inner
      by_cases h5 : (τ.sc.length : Int) ≤ τ.pos
      · exact ⟨_, _, by simp only [sIf_s, tst_s, dBin_s, dTapIx_s, dVar_s, sSeq_s]; simp [hc]; simp only [sIf_s] at hi; simp at hi; simp [hi, h5, sTap, mp, m1, m2, m3]; exact ⟨rfl, rfl⟩⟩
      · by_cases h6 : c < 1000000000000000000
        · exact ⟨_, _, by simp only [sIf_s, tst_s, dBin_s, dTapIx_s, dVar_s, sSeq_s]; simp [hc]; simp only [sIf_s] at hi; simp at hi; simp [hi, h5, h6, h10, sTap, mp, m1, m2, m3]; exact ⟨rfl, rfl⟩⟩
        · exact ⟨_, _, by simp only [sIf_s, tst_s, dBin_s, dTapIx_s, dVar_s, sSeq_s]; simp [hc]; simp only [sIf_s] at hi; simp at hi; simp [hi, h5, h6, h10, sTap, mp, m1, m2, m3]; exact ⟨rfl, rfl⟩⟩
    · exact ⟨none, τ, by simp [hc]⟩
  obtain ⟨X, τ1, g1⟩ := one
  obtain ⟨r, τ', g2, g3⟩ := fin [some .tp, some (.sh (.int m)), some (.sh (.int 2305843009213693951)), X, none] τ1 rfl rfl (by simp)
  refine ⟨r, τ', ?_, g3⟩
  have e : d4.body (callK tb k) (startE d4.nn [.tp, .sh (.int m)]) τ = bnd (dr1 [some .tp, some (.sh (.int m)), some (.sh (.int 2305843009213693951)), none, none] τ) fun o τ' => match o with
    | .nx env' => dr2 env' τ'
    | o => some (o, τ') := rfl
  rw [e, g1]
  exact g2
end
end Pv
namespace Pv
open PySem L2 PySem.Spec PyProof.Rows
def sca : D → Bool
  | .none => true | .bool _ => true | .int _ => true | .str _ => true | _ => false
/-- data of that depth, no list too long -/
def Lk : Nat → D → Prop
  | 0, d => sca d = true
  | n + 1, d => sca d = true ∨ ∃ xs : List D, (d = .list xs ∨ d = .tuple xs) ∧ xs.length ≤ 16777216 ∧ ∀ x ∈ xs, Lk n x
theorem Lk.up {n : Nat} : ∀ {d : D}, Lk n d → Lk (n + 1) d := by
  induction n with
  | zero => exact fun h => .inl h
  | succ n ih =>
    intro d h
    rcases h with h | ⟨xs, h1, h2, h3⟩
    · exact .inl h
    · exact .inr ⟨xs, h1, h2, fun x hx => ih (h3 x hx)⟩
theorem Lk.le {n m : Nat} {d : D} (h : Lk n d) (hm : n ≤ m) : Lk m d := by
  induction hm with
  | refl => exact h
  | step _ ih => exact ih.up
@[simp] theorem ne_bb {a b : Bool} : neV (.bool a) (.bool b) = some (.sh (.bool (a != b))) := by
  unfold neV
  rw [if_pos (by simp [PyData.depth])]
  simp only [PyData.eqv]
  cases a <;> cases b <;> rfl
@[simp] theorem eq_bb {a b : Bool} : eqV (.bool a) (.bool b) = some (.sh (.bool (a == b))) := by
  unfold eqV
  rw [if_pos (by simp [PyData.depth])]
  simp only [PyData.eqv]
theorem atI_mem {xs : List D} {i : Nat} (h : i < xs.length) : L2.atI xs (i : Int) = some xs[i] := atI_nat (List.getElem?_eq_getElem h)
theorem rng_mem {lo : Int} {n : Nat} {x : D} (h : x ∈ rngL lo n) : ∃ i : Nat, i < n ∧ x = .int (lo + i) := by
  unfold rngL at h
  obtain ⟨i, hi, rfl⟩ := List.mem_map.mp h
  exact ⟨i, List.mem_range.mp hi, rfl⟩
section
variable {tb : Nat → Option Df}
theorem like (ht : tb 7 = some d7) : ∀ (n : Nat) (d : D), Lk n d → ∀ (k : Nat) τ, callK tb (k + n + 1) 7 [.sh d, .sh d] τ = some (.sh (.bool true), τ) := by
  have scalar : ∀ (d : D), sca d = true → ∀ (k : Nat) τ, callK tb (k + 1) 7 [.sh d, .sh d] τ = some (.sh (.bool true), τ) := fun d h k τ => by
    rw [call_s ht rfl]
    have he : eqV d d = some (.sh (.bool true)) := by
      refine eq_true ?_ ?_
      · cases d <;> first | rfl | cases h
      · cases d <;> first | (simp [PyData.depth]; done) | cases h
    have h1 : isB d .list = false := by cases d <;> first | rfl | cases h
    have h2 : isB d .tuple = false := by cases d <;> first | rfl | cases h
    simp [startE_s, h1, h2, he]
  intro n
  induction n with
  | zero => exact scalar
  | succ n ih =>
    intro d h k τ
    rcases h with h | ⟨xs, h1, h2, h3⟩
    · exact scalar d h _ τ
    · rw [call_s ht rfl]
      have hl : (xs.length : Int) ≤ 16777216 := by omega
      have h0 : (-16777216 : Int) ≤ xs.length := by omega
      have comp : ∀ (w : Option Vl) τ, compL (gN 2) (tnot (tst (dDef (callK tb (k + (n + 1))  7) (vCons (shD (dBin ixV (dVar 0) (dVar 2))) (vCons (shD (dBin ixV (dVar 1) (dVar 2))) (vNil)))))) (dVar 2) (rngL 0 xs.length) [some (.sh d), some (.sh d), w] τ = some ([], τ) := fun w τ => by
        have := compL_pure (b := gN 2) (c := tnot (tst (dDef (callK tb (k + (n + 1)) 7) (vCons (shD (dBin ixV (dVar 0) (dVar 2))) (vCons (shD (dBin ixV (dVar 1) (dVar 2))) (vNil)))))) (e := dVar 2) (env := [some (.sh d), some (.sh d), w]) (fun _ => false) id (ds := rngL 0 xs.length) (fun x hx => ?_) τ
        · rw [this]; simp
        · obtain ⟨i, hi, rfl⟩ := rng_mem hx
          refine ⟨_, rfl, fun τ => ⟨?_, fun z => by cases z⟩⟩
          have e6 : ixV d (.int (i : Int)) = some (.sh xs[i]) := by
            rcases h1 with rfl | rfl
            · show (L2.atI xs (i : Int)).map Vl.sh = _; rw [atI_mem hi]; rfl
            · show (L2.atI xs (i : Int)).map Vl.sh = _; rw [atI_mem hi]; rfl
          have e7 := ih xs[i] (h3 _ (List.getElem_mem hi)) k τ
          rw [show k + n + 1 = k + (n + 1) by omega] at e7
          simp [e6, e7]
      have he : eqV (.list []) (.list []) = some (.sh (.bool true)) := eq_true rfl (by simp [PyData.depth, PyData.depthAll])
      have hc := comp none τ
      rcases h1 with rfl | rfl
      · simp [startE_s, isB, hl, h0, hc, he]
      · simp [startE_s, isB, hl, h0, hc, he]
end
end Pv
namespace Pv
open PySem L2 PySem.Spec PyProof.Rows
theorem cut_from (xs : List D) (n : Nat) : cutD xs (some (n : Int)) none = xs.drop n := by
  unfold cutD
  rw [HT.sIx_nat, HT.sIx_none]
  rcases Nat.le_total n xs.length with h | h
  · rw [Nat.min_eq_left h]
    apply List.take_of_length_le
    rw [List.length_drop]; omega
  · rw [Nat.min_eq_right h, List.drop_eq_nil_of_le h, List.drop_length]
    simp
theorem cut_to (xs : List D) (n : Nat) : cutD xs none (some (n : Int)) = xs.take n := by
  unfold cutD
  rw [HT.sIx_nat, HT.sIx_none, List.drop_zero, Nat.sub_zero]
  rcases Nat.le_total n xs.length with h | h
  · rw [Nat.min_eq_left h]
  · rw [Nat.min_eq_right h, List.take_length, List.take_of_length_le h]
theorem cut_ft (xs : List D) (n m : Nat) (h : n ≤ m) : cutD xs (some (n : Int)) (some (m : Int)) = (xs.drop n).take (m - n) := by
  unfold cutD
  rw [HT.sIx_nat, HT.sIx_nat]
  rcases Nat.le_total n xs.length with h1 | h1
  · rw [Nat.min_eq_left h1]
    rcases Nat.le_total m xs.length with h2 | h2
    · rw [Nat.min_eq_left h2]
    · rw [Nat.min_eq_right h2, List.take_of_length_le (by rw [List.length_drop]; omega), List.take_of_length_le (by rw [List.length_drop]; omega)]
  · rw [Nat.min_eq_right h1, List.drop_length, List.drop_eq_nil_of_le h1]
    simp
theorem zipD_ints : ∀ xs ys : List Int, zipD (xs.map PyData.int) (ys.map PyData.int) = (xs.zip ys).map fun p => .tuple [.int p.1, .int p.2]
  | [], _ => by simp [zipD]
  | _ :: _, [] => by simp [zipD]
  | x :: xs, y :: ys => by
    simp only [List.map_cons, zipD, List.zip_cons_cons]
    rw [zipD_ints xs ys]
theorem zipD_map {α β : Type} (f : α → D) (g : β → D) : ∀ (xs : List α) (ys : List β), zipD (xs.map f) (ys.map g) = (xs.zip ys).map fun p => .tuple [f p.1, g p.2]
  | [], _ => by simp [zipD]
  | _ :: _, [] => by simp [zipD]
  | x :: xs, y :: ys => by
    simp only [List.map_cons, zipD, List.zip_cons_cons]
    rw [zipD_map f g xs ys]
@[simp] theorem sum_ints {ns : List Int} : sumC [.list (ns.map PyData.int)] = some (.sh (.int ns.sum)) := by
  show (toInts (ns.map PyData.int)).map _ = _
  rw [toInts_map]; rfl
/-! ### dicts -/
section
variable {κ : Type} [DecidableEq κ]
theorem hasK_iff {kvs : List (κ × D)} {k : κ} : hasK kvs k = true ↔ k ∈ kvs.map (·.1) := by
  unfold hasK
  rw [List.any_eq_true]
  constructor
  · rintro ⟨p, hp, e⟩
    exact List.mem_map.mpr ⟨p, hp, of_decide_eq_true e⟩
  · intro h
    obtain ⟨p, hp, e⟩ := List.mem_map.mp h
    exact ⟨p, hp, decide_eq_true e⟩
theorem putD_new {kvs : List (κ × D)} {k : κ} {d : D} (h : k ∉ kvs.map (·.1)) : putD kvs k d = kvs ++ [(k, d)] := by
  unfold putD
  rw [if_neg (fun z => h (hasK_iff.mp z))]
theorem valK_none {kvs : List (κ × D)} {k : κ} (h : k ∉ kvs.map (·.1)) : valK kvs k = none := by
  unfold valK
  rw [List.find?_eq_none.mpr]
  · rfl
  · intro p hp e
    exact h (List.mem_map.mpr ⟨p, hp, of_decide_eq_true e⟩)
theorem valK_cons {p : κ × D} {kvs : List (κ × D)} {k : κ} : valK (p :: kvs) k = if p.1 = k then some p.2 else valK kvs k := by
  unfold valK
  by_cases h : p.1 = k
  · rw [List.find?_cons_of_pos (by simpa using h), if_pos h]; rfl
  · rw [List.find?_cons_of_neg (by simpa using h), if_neg h]
theorem valK_mem {kvs : List (κ × D)} {k : κ} {d : D} (nd : (kvs.map (·.1)).Nodup) (h : (k, d) ∈ kvs) : valK kvs k = some d := by
  induction kvs with
  | nil => cases h
  | cons p kvs ih =>
    rw [valK_cons]
    rw [List.map_cons, List.nodup_cons] at nd
    rcases List.mem_cons.mp h with e | h
    · rw [← e, if_pos rfl]
    · have : p.1 ≠ k := fun e => nd.1 (List.mem_map.mpr ⟨_, h, by rw [e]⟩)
      rw [if_neg this]
      exact ih nd.2 h
end
theorem mergeD_new : ∀ (prs acc : List (Key × D)), ((acc ++ prs).map (·.1)).Nodup → mergeD acc prs = acc ++ prs
  | [], acc, _ => by simp [mergeD]
  | p :: prs, acc, nd => by
    show mergeD (putD acc p.1 p.2) prs = _
    have hn : p.1 ∉ acc.map (·.1) := fun z => by
      rw [List.map_append, List.map_cons] at nd
      exact (List.nodup_append.mp nd).2.2 _ z _ List.mem_cons_self rfl
    rw [putD_new hn, mergeD_new prs _ (by rw [List.append_assoc]; exact nd), List.append_assoc]
    rfl
theorem dcL_pure {b : DG} {k e : DD} {env : Ev} (kk : D → Key) (f : D → D) : ∀ {ds : List D} {acc : List (Key × D)}, (∀ x ∈ ds, ∃ env1 kd, b x env = some env1 ∧ keyD kd = some (kk x) ∧ ∀ τ, k env1 τ = some (kd, τ) ∧ e env1 τ = some (f x, τ)) → ∀ τ, dcL b yes k e ds acc env τ = some (mergeD acc (ds.map fun x => (kk x, f x)), τ)
  | [], acc, _, _ => rfl
  | x :: xs, acc, h, τ => by
    obtain ⟨env1, kd, h1, h2, h3⟩ := h x List.mem_cons_self
    have ih := dcL_pure (b := b) (k := k) (e := e) (env := env) kk f (ds := xs) (acc := putD acc (kk x) (f x)) (fun y hy => h y (List.mem_cons_of_mem _ hy)) τ
    rw [dcL, h1]
    show bnd (yes env1 τ) _ = _
    rw [yes_s, bnd_s, if_pos rfl, (h3 τ).1, bnd_s, (h3 τ).2, bnd_s, h2]
    exact ih
theorem pairsK_map {α : Type} (f g : α → D) (kk : α → Key) : ∀ (xs : List α), (∀ x ∈ xs, keyD (f x) = some (kk x)) → pairsK (xs.map fun x => .tuple [f x, g x]) = some (xs.map fun x => (kk x, g x))
  | [], _ => rfl
  | x :: xs, h => by
    have ih := pairsK_map f g kk xs fun y hy => h y (List.mem_cons_of_mem _ hy)
    show (match (keyD (f x)).map (fun c => (c, g x)), pairsK (xs.map fun x => .tuple [f x, g x]) with
      | some p, some ps => some (p :: ps)
      | _, _ => none) = _
    rw [h x List.mem_cons_self, ih]
    rfl
/-! ### folk -/
abbrev Fk := List (Str × Int × Int)
def e1 (p : Str × Int × Int) : D := .tuple [.str p.1, .int p.2.1, .int p.2.2]
def eF (fs : Fk) : D := .tuple (fs.map e1)
def fnames (fs : Fk) : List Str := fs.map (·.1)
def fget (fs : Fk) (n : Str) : Str × Int × Int := (fs.find? fun p => decide (p.1 = n)).getD (n, 0, 0)
def clamp (p : Str × Int × Int) (d : Int) : Int := min (max d p.2.1) p.2.2
/-- where the wheel stands behind each visit -/
def sett (fs : Fk) : Int → List Str → List Int
  | _, [] => []
  | d, n :: ns => clamp (fget fs n) d :: sett fs (clamp (fget fs n) d) ns
theorem sett_len (fs : Fk) : ∀ (d : Int) (ns : List Str), (sett fs d ns).length = ns.length
  | _, [] => rfl
  | d, n :: ns => by rw [sett, List.length_cons, List.length_cons, sett_len fs _ ns]
theorem fget_mem {fs : Fk} {n : Str} (h : n ∈ fnames fs) : fget fs n ∈ fs ∧ (fget fs n).1 = n := by
  unfold fget
  obtain ⟨p, hp, e⟩ := List.mem_map.mp h
  cases q : fs.find? (fun p => decide (p.1 = n)) with
  | none =>
    have := List.find?_eq_none.mp q p hp
    rw [e] at this
    simp at this
  | some r =>
    have h1 := List.find?_some q
    exact ⟨List.mem_of_find?_eq_some q, of_decide_eq_true h1⟩
/-- the dict of the folk by their names -/
def byN (fs : Fk) : List (Key × D) := fs.map fun p => (.inr p.1, e1 p)
theorem byN_keys (fs : Fk) : (byN fs).map (·.1) = (fnames fs).map Sum.inr := by
  unfold byN fnames
  rw [List.map_map, List.map_map]
  rfl
theorem nodup_inr {xs : List Str} (h : xs.Nodup) : (xs.map (Sum.inr : Str → Key)).Nodup := by
  induction xs with
  | nil => simp
  | cons x xs ih =>
    rw [List.nodup_cons] at h
    rw [List.map_cons, List.nodup_cons]
    refine ⟨fun z => ?_, ih h.2⟩
    obtain ⟨y, hy, e⟩ := List.mem_map.mp z
    cases e
    exact h.1 hy
theorem valK_byN {fs : Fk} {n : Str} (nd : (fnames fs).Nodup) (h : n ∈ fnames fs) : valK (byN fs) (.inr n) = some (e1 (fget fs n)) := by
  obtain ⟨h1, h2⟩ := fget_mem h
  refine valK_mem (by rw [byN_keys]; exact nodup_inr nd) ?_
  refine List.mem_map.mpr ⟨_, h1, ?_⟩
  rw [h2]
section
variable {tb : Nat → Option Df} {k : Nat}
theorem suited_s (h15 : tb 15 = some d15) (p : Str × Int × Int) (d : Int) (τ : Tp) : callK tb (k + 1) 15 [.sh (e1 p), .sh (.int d)] τ = some (.sh (.int (clamp p d)), τ) := by
  rw [call_s h15 rfl]
  simp [startE_s, e1, clamp]
theorem ix0 (xs : List D) (x : D) : ixV (.tuple (x :: xs)) (.int 0) = some (.sh x) := by
  show (L2.atI (x :: xs) ((0 : Nat) : Int)).map Vl.sh = _
  rw [atI_nat (v := x) rfl]; rfl
theorem ix1 (xs : List D) (x y : D) : ixV (.tuple (x :: y :: xs)) (.int 1) = some (.sh y) := by
  show (L2.atI (x :: y :: xs) ((1 : Nat) : Int)).map Vl.sh = _
  rw [atI_nat (v := y) rfl]; rfl
theorem ix2 (xs : List D) (x y z : D) : ixV (.tuple (x :: y :: z :: xs)) (.int 2) = some (.sh z) := by
  show (L2.atI (x :: y :: z :: xs) ((2 : Nat) : Int)).map Vl.sh = _
  rw [atI_nat (v := z) rfl]; rfl
theorem ixm1 (xs : List D) (x : D) : ixV (.list (xs ++ [x])) (.int (-1)) = some (.sh x) := by
  show (L2.atI (xs ++ [x]) (-1)).map Vl.sh = _
  rw [atI_last]; rfl
theorem byN_make (C : Nat → Cal) {fs : Fk} (nd : (fnames fs).Nodup) (env : Ev) (τ : Tp) (h : ∃ l, env.length = l ∧ 4 < l) : dcL (gN 4) yes (shD (dBin ixV (dVar 4) (dK (.int 0)))) (dVar 4) (fs.map e1) [] env τ = some (byN fs, τ) := by
  obtain ⟨l, h1, h2⟩ := h
  have := dcL_pure (b := gN 4) (k := shD (dBin ixV (dVar 4) (dK (.int 0)))) (e := dVar 4) (env := env) (fun d => match d with
    | .tuple (.str n :: _) => .inr n
    | _ => .inr default) (fun d => d) (ds := fs.map e1) (acc := []) (fun x hx => by
      obtain ⟨p, hp, rfl⟩ := List.mem_map.mp hx
      have e4 : (env.set 4 (some (.sh (e1 p))))[4]? = some (some (.sh (e1 p))) := List.getElem?_set_self (by omega)
      refine ⟨_, .str p.1, rfl, rfl, fun τ => ⟨?_, ?_⟩⟩
      · simp only [shD_s, dBin_s, dVar_s, e4, dK_s, bnd_s]
        unfold e1
        rw [ix0]
        rfl
      · simp only [dVar_s, e4]) τ
  rw [this, mergeD_new _ _ ?_]
  · unfold byN
    rw [List.nil_append, List.map_map]
    rfl
  · rw [List.nil_append, List.map_map, List.map_map]
    have := nodup_inr nd
    unfold fnames at this
    rw [List.map_map] at this
    exact this
end
end Pv
namespace Pv
open PySem L2 PySem.Spec PyProof.Rows
theorem app_s {ds : List D} {y : D} (h : ds.length < 16777216) : appV ds [y] = some (ds ++ [y]) := by
  show (if ds.length < 16777216 then some (ds ++ [y]) else none) = _
  rw [if_pos h]
theorem add_ll {xs ys : List D} (h : xs.length + ys.length ≤ 16777216) : addV (.list xs) (.list ys) = some (.ow (xs ++ ys)) := by
  show (if xs.length + ys.length ≤ 16777216 then some (Vl.ow (xs ++ ys)) else none) = _
  rw [if_pos h]
theorem add_tt {xs ys : List D} (h : xs.length + ys.length ≤ 16777216) : addV (.tuple xs) (.tuple ys) = some (.sh (.tuple (xs ++ ys))) := by
  show (if xs.length + ys.length ≤ 16777216 then some (Vl.sh (.tuple (xs ++ ys))) else none) = _
  rw [if_pos h]
section
variable {tb : Nat → Option Df} {k : Nat}
theorem settings_loop (h15 : tb 15 = some d15) {fs : Fk} (nd : (fnames fs).Nodup) (F v : D) (x4 : Option Vl) : ∀ (ns : List Str) (d : Int) (acc : List D) (x6 : Option Vl) (τ : Tp), (∀ n ∈ ns, n ∈ fnames fs) → acc.length + ns.length ≤ 16777216 →
    ∃ d' x6', forL (gN 6) (sSeq (sAsg 1 (dDef (callK tb (k + 1) 15) (vCons (dGet (dMb 3) (dVar 6)) (vCons (dVar 1) (vNil))))) (sMut 5 appV (dCons (dVar 1) (dNil)))) (ns.map .str) [some (.sh F), some (.sh (.int d)), some (.sh v), some (.dk (byN fs)), x4, some (.ow acc), x6] τ
      = some (.nx [some (.sh F), some (.sh (.int d')), some (.sh v), some (.dk (byN fs)), x4, some (.ow (acc ++ (sett fs d ns).map .int)), x6'], τ)
  | [], d, acc, x6, τ, _, _ => ⟨d, x6, by simp [sett]⟩
  | n :: ns, d, acc, x6, τ, h, hl => by
    have hl1 : acc.length < 16777216 := by simp at hl; omega
    obtain ⟨d', x6', ih⟩ := settings_loop h15 nd F v x4 ns (clamp (fget fs n) d) (acc ++ [.int (clamp (fget fs n) d)]) (some (.sh (.str n))) τ (fun m hm => h m (List.mem_cons_of_mem _ hm)) (by simp at hl ⊢; omega)
    refine ⟨d', x6', ?_⟩
    rw [List.map_cons, forL_cons rfl]
    have hg : getM (.dk (byN fs)) (.str n) = some (some (e1 (fget fs n))) := by
      show (some (valK (byN fs) (.inr n))) = _
      rw [valK_byN nd (h n List.mem_cons_self)]
    simp [hg, suited_s h15, app_s hl1, ih, sett]
theorem items_it {v : D} {xs : List D} (h : v = .list xs ∨ v = .tuple xs) {f : DD} {env : Ev} {τ τ' : Tp} (e : f env τ = some (v, τ')) : dIt f env τ = some (xs, τ') := by
  rw [dIt_s, e]
  rcases h with rfl | rfl <;> rfl
theorem settings_s (h15 : tb 15 = some d15) (h16 : tb 16 = some d16) {fs : Fk} (nd : (fnames fs).Nodup) {ns : List Str} (hv : ∀ n ∈ ns, n ∈ fnames fs) (hl : ns.length ≤ 16777216) {v : D} (hv2 : v = .list (ns.map .str) ∨ v = .tuple (ns.map .str)) (d : Int) (τ : Tp) :
    callK tb (k + 2) 16 [.sh (eF fs), .sh (.int d), .sh v] τ = some (.ow ((sett fs d ns).map .int), τ) := by
  rw [call_s h16 rfl]
  obtain ⟨d', x6', hloop⟩ := settings_loop (k := k) h15 nd (eF fs) v none ns d [] none τ hv (by simpa using hl)
  have hd := byN_make (callK tb (k + 1)) nd [some (.sh (eF fs)), some (.sh (.int d)), some (.sh v), none, none, none, none] τ ⟨7, rfl, by omega⟩
  rcases hv2 with rfl | rfl <;> (simp [startE_s, eF]; simp [eF] at hloop hd; simp [hd, hloop])
/-- how far the wheel is turned -/
def walkLen : Int → List Int → Int
  | _, [] => 0
  | d, x :: xs => absI (d - x) + walkLen x xs
theorem walk_zip_sum : ∀ (xs : List Int) (d : Int), (((d :: xs).zip xs).map fun p => absI (p.1 - p.2)).sum = walkLen d xs
  | [], d => rfl
  | x :: xs, d => by
    rw [List.zip_cons_cons, List.map_cons, List.sum_cons, walk_zip_sum xs x]
    rfl
theorem turned_s (h15 : tb 15 = some d15) (h16 : tb 16 = some d16) (h17 : tb 17 = some d17) {fs : Fk} (nd : (fnames fs).Nodup) {ns : List Str} (hv : ∀ n ∈ ns, n ∈ fnames fs) (hl : ns.length ≤ 16777200) {v : D} (hv2 : v = .list (ns.map .str) ∨ v = .tuple (ns.map .str)) (d : Int) (τ : Tp) :
    callK tb (k + 3) 17 [.sh (eF fs), .sh (.int d), .sh v] τ = some (.sh (.int (walkLen d (sett fs d ns))), τ) := by
  rw [call_s h17 rfl]
  have hs := settings_s (k := k) h15 h16 nd hv (by omega) hv2 d τ
  have hlen := sett_len fs d ns
  generalize hrows : sett fs d ns = rows at hs hlen ⊢
  have hadd : addV (.list [.int d]) (.list (rows.map .int)) = some (.ow ((d :: rows).map .int)) := add_ll (by simp; omega)
  have hcut : cutD ((d :: rows).map PyData.int) (some 1) none = rows.map .int := by
    have := cut_from ((d :: rows).map PyData.int) 1
    exact this
  have hz : zipD ((d :: rows).map PyData.int) (rows.map .int) = ((d :: rows).zip rows).map fun p => .tuple [.int p.1, .int p.2] := zipD_ints _ _
  have hc : ∀ (env : Ev) τ, env.length = 6 → compL (gT [4, 5]) yes (shD (dCl absC (dCons (shD (dBin subV (dVar 4) (dVar 5))) (dNil)))) (((d :: rows).zip rows).map fun p => .tuple [.int p.1, .int p.2]) env τ = some (((d :: rows).zip rows).map fun p => .int (absI (p.1 - p.2)), τ) := fun env τ el => by
    rw [compL_map (fun x => match x with
      | .tuple [.int a, .int b] => .int (absI (a - b))
      | _ => .none) (fun x hx => ?_) τ, List.map_map]
    · rfl
    · obtain ⟨p, _, rfl⟩ := List.mem_map.mp hx
      refine ⟨_, rfl, fun τ => ?_⟩
      have e4 : ((env.set 4 (some (.sh (.int p.1)))).set 5 (some (.sh (.int p.2))))[4]? = some (some (.sh (.int p.1))) := by rw [List.getElem?_set_ne (by decide), List.getElem?_set_self (by omega)]
      have e5 : ((env.set 4 (some (.sh (.int p.1)))).set 5 (some (.sh (.int p.2))))[5]? = some (some (.sh (.int p.2))) := List.getElem?_set_self (by rw [List.length_set]; omega)
      simp only [shD_s, dCl_s, dCons_s, dBin_s, dVar_s, List.zip_cons_cons, List.zip_nil_left, List.foldl_cons, List.foldl_nil, e4, e5, bnd_s, sub_ii, Option.map_some, dNil_s, abs_i]
  have hsum : sumC [.list (((d :: rows).zip rows).map fun p => .int (absI (p.1 - p.2)))] = some (.sh (.int (walkLen d rows))) := by
    have := sum_ints (ns := ((d :: rows).zip rows).map fun p => absI (p.1 - p.2))
    rw [List.map_map, walk_zip_sum] at this
    exact this
  simp only [List.map_cons] at hadd hcut hz
  simp [startE_s, hs, hadd, slD, hcut, itemsD, hz]
  have := hc [some (Vl.sh (eF fs)), some (Vl.sh (PyData.int d)), some (Vl.sh v), some (Vl.sh (PyData.list (PyData.int d :: List.map PyData.int rows))), none, none] τ rfl
  simp [this, hsum]
end
end Pv
namespace Pv
open PySem L2 PySem.Spec PyProof.Rows
/-- where the wheel stands in the end -/
def endAt (fs : Fk) (d : Int) (ns : List Str) : Int := (sett fs d ns).getLastD d
theorem map_last (d : Int) : ∀ rows : List Int, ∃ xs, (d :: rows).map PyData.int = xs ++ [.int (rows.getLastD d)] := by
  intro rows
  induction rows generalizing d with
  | nil => exact ⟨[], rfl⟩
  | cons x rows ih =>
    obtain ⟨xs, h⟩ := ih x
    refine ⟨.int d :: xs, ?_⟩
    rw [List.map_cons, h, List.getLastD_cons]
    rfl
theorem ix_last (d : Int) (rows : List Int) : ixV (.list (.int d :: rows.map .int)) (.int (-1)) = some (.sh (.int (rows.getLastD d))) := by
  obtain ⟨xs, h⟩ := map_last d rows
  rw [List.map_cons] at h
  rw [h, ixm1]
section
variable {tb : Nat → Option Df} {k : Nat}
theorem two_s (h15 : tb 15 = some d15) (h16 : tb 16 = some d16) (h18 : tb 18 = some d18) {fs : Fk} (nd : (fnames fs).Nodup) {ns : List Str} (hv : ∀ n ∈ ns, n ∈ fnames fs) (hl : ns.length ≤ 16777200) {v : D} (hv2 : v = .list (ns.map .str) ∨ v = .tuple (ns.map .str)) (τ : Tp) :
    callK tb (k + 3) 18 [.sh (eF fs), .sh v] τ = some (.sh (.tuple [.int (endAt fs 0 ns), .int (endAt fs 40 ns)]), τ) := by
  rw [call_s h18 rfl]
  have hs0 := settings_s (k := k) h15 h16 nd hv (by omega) hv2 0 τ
  have hs1 := settings_s (k := k) h15 h16 nd hv (by omega) hv2 40 τ
  have l0 := sett_len fs 0 ns
  have l1 := sett_len fs 40 ns
  have a0 : addV (.list [.int 0]) (.list ((sett fs 0 ns).map .int)) = some (.ow (.int 0 :: (sett fs 0 ns).map .int)) := add_ll (by simp; omega)
  have a1 : addV (.list [.int 40]) (.list ((sett fs 40 ns).map .int)) = some (.ow (.int 40 :: (sett fs 40 ns).map .int)) := add_ll (by simp; omega)
  simp [startE_s, hs0, hs1, a0, a1, ix_last, endAt]
/-- the law's dict -/
def byS (fs : Fk) : List (Key × D) := fs.map fun p => (.inr p.1, .tuple [.int p.2.1, .int p.2.2])
theorem byS_keys (fs : Fk) : (byS fs).map (·.1) = (fnames fs).map Sum.inr := by
  unfold byS fnames
  rw [List.map_map, List.map_map]
  rfl
theorem valK_byS {fs : Fk} {n : Str} (nd : (fnames fs).Nodup) (h : n ∈ fnames fs) : valK (byS fs) (.inr n) = some (.tuple [.int (fget fs n).2.1, .int (fget fs n).2.2]) := by
  obtain ⟨h1, h2⟩ := fget_mem h
  refine valK_mem (by rw [byS_keys]; exact nodup_inr nd) ?_
  refine List.mem_map.mpr ⟨_, h1, ?_⟩
  rw [h2]
/-- each stretch is the right way about -/
def Wf (fs : Fk) : Prop := ∀ p ∈ fs, p.2.1 ≤ p.2.2
theorem clamp_if {p : Str × Int × Int} {d : Int} (h : p.2.1 ≤ p.2.2) : (if d < p.2.1 then p.2.1 else if p.2.2 < d then p.2.2 else d) = clamp p d := by
  unfold clamp
  split
  · omega
  · split <;> omega
theorem rows_loop {fs : Fk} (nd : (fnames fs).Nodup) (wf : Wf fs) (F v : D) : ∀ (ns : List Str) (d : Int) (acc : List D) (x4 x5 x6 : Option Vl) (τ : Tp), (∀ n ∈ ns, n ∈ fnames fs) → acc.length + ns.length ≤ 16777216 →
    ∃ d' y4 y5 y6, forL (gN 4) (sSeq (sUnp (gT [5, 6]) (dGet (dMb 3) (dVar 4))) (sSeq (sAsg 1 (vD (dif (tst (dBin ltV (dVar 1) (dVar 5))) (dVar 5) (dif (tst (dBin gtV (dVar 1) (dVar 6))) (dVar 6) (dVar 1))))) (sMut 7 appV (dCons (dVar 1) (dNil))))) (ns.map .str) [some (.sh F), some (.sh (.int d)), some (.sh v), some (.dk (byS fs)), x4, x5, x6, some (.ow acc)] τ
      = some (.nx [some (.sh F), some (.sh (.int d')), some (.sh v), some (.dk (byS fs)), y4, y5, y6, some (.ow (acc ++ (sett fs d ns).map .int))], τ)
  | [], d, acc, x4, x5, x6, τ, _, _ => ⟨d, x4, x5, x6, by simp [sett]⟩
  | n :: ns, d, acc, x4, x5, x6, τ, h, hl => by
    have hl1 : acc.length < 16777216 := by simp at hl; omega
    obtain ⟨d', y4, y5, y6, ih⟩ := rows_loop nd wf F v ns (clamp (fget fs n) d) (acc ++ [.int (clamp (fget fs n) d)]) (some (.sh (.str n))) (some (.sh (.int (fget fs n).2.1))) (some (.sh (.int (fget fs n).2.2))) τ (fun m hm => h m (List.mem_cons_of_mem _ hm)) (by simp at hl ⊢; omega)
    refine ⟨d', y4, y5, y6, ?_⟩
    rw [List.map_cons, forL_cons rfl]
    have hn := h n List.mem_cons_self
    have hg : getM (.dk (byS fs)) (.str n) = some (some (.tuple [.int (fget fs n).2.1, .int (fget fs n).2.2])) := by
      show (some (valK (byS fs) (.inr n))) = _
      rw [valK_byS nd hn]
    have hc := clamp_if (d := d) (wf _ (fget_mem hn).1)
    by_cases c1 : d < (fget fs n).2.1
    · rw [if_pos c1] at hc
      rw [← hc] at ih
      simp [hg, c1, app_s hl1, ih, sett, ← hc]
    · by_cases c2 : (fget fs n).2.2 < d
      · rw [if_neg c1, if_pos c2] at hc
        rw [← hc] at ih
        simp [hg, c1, c2, app_s hl1, ih, sett, ← hc]
      · rw [if_neg c1, if_neg c2] at hc
        rw [← hc] at ih
        simp [hg, c1, c2, app_s hl1, ih, sett, ← hc]
theorem rows_s (h21 : tb 21 = some d21) {fs : Fk} (nd : (fnames fs).Nodup) (wf : Wf fs) {ns : List Str} (hv : ∀ n ∈ ns, n ∈ fnames fs) (hl : ns.length ≤ 16777216) {v : D} (hv2 : v = .list (ns.map .str) ∨ v = .tuple (ns.map .str)) (d : Int) (τ : Tp) :
    callK tb (k + 1) 21 [.sh (eF fs), .sh (.int d), .sh v] τ = some (.ow ((sett fs d ns).map .int), τ) := by
  rw [call_s h21 rfl]
  obtain ⟨d', y4, y5, y6, hloop⟩ := rows_loop nd wf (eF fs) v ns d [] none none none τ hv (by simpa using hl)
  have hc : compL (gT [4, 5, 6]) yes (dTup (dCons (dVar 4) (dCons (dTup (dCons (dVar 5) (dCons (dVar 6) (dNil)))) (dNil)))) (fs.map e1) [some (.sh (eF fs)), some (.sh (.int d)), some (.sh v), none, none, none, none, none] τ = some (fs.map fun p => .tuple [.str p.1, .tuple [.int p.2.1, .int p.2.2]], τ) := by
    rw [compL_map (fun x => match x with
      | .tuple [a, b, c] => .tuple [a, .tuple [b, c]]
      | _ => .none) (fun x hx => ?_) τ, List.map_map]
    · rfl
    · obtain ⟨p, _, rfl⟩ := List.mem_map.mp hx
      exact ⟨_, rfl, fun τ => by simp [e1]⟩
  have hp := pairsK_map (fun p : Str × Int × Int => PyData.str p.1) (fun p => .tuple [.int p.2.1, .int p.2.2]) (fun p => .inr p.1) fs fun _ _ => rfl
  have hm : mergeD [] (fs.map fun p => ((.inr p.1 : Key), PyData.tuple [.int p.2.1, .int p.2.2])) = byS fs := by
    rw [mergeD_new _ _ (by rw [List.nil_append]; have := byS_keys fs; unfold byS at this; rw [this]; exact nodup_inr nd)]
    rfl
  rcases hv2 with rfl | rfl <;> (simp [startE_s, eF]; simp [eF] at hloop hc; simp [hc, hp, hm, hloop])
theorem lturn_loop (F v : D) : ∀ (rows : List Int) (d acc : Int) (x4 : Option Vl) (τ : Tp), ∃ d' y4, forL (gN 4) (sPar [3, 1] (wCons (shD (dBin addV (dVar 3) (shD (dCl absC (dCons (shD (dBin subV (dVar 4) (dVar 1))) (dNil)))))) (wCons (dVar 4) (wNil)))) (rows.map .int) [some (.sh F), some (.sh (.int d)), some (.sh v), some (.sh (.int acc)), x4] τ
    = some (.nx [some (.sh F), some (.sh (.int d')), some (.sh v), some (.sh (.int (acc + walkLen d rows))), y4], τ)
  | [], d, acc, x4, τ => ⟨d, x4, by simp [walkLen]⟩
  | x :: rows, d, acc, x4, τ => by
    obtain ⟨d', y4, ih⟩ := lturn_loop F v rows x (acc + absI (x - d)) (some (.sh (.int x))) τ
    refine ⟨d', y4, ?_⟩
    rw [List.map_cons, forL_cons rfl]
    have hw : acc + walkLen d (x :: rows) = acc + absI (x - d) + walkLen x rows := by
      have : absI (d - x) = absI (x - d) := by unfold absI; split <;> split <;> omega
      show acc + (absI (d - x) + walkLen x rows) = _
      rw [this]; omega
    simp [ih, hw]
theorem lturned_s (h21 : tb 21 = some d21) (h22 : tb 22 = some d22) {fs : Fk} (nd : (fnames fs).Nodup) (wf : Wf fs) {ns : List Str} (hv : ∀ n ∈ ns, n ∈ fnames fs) (hl : ns.length ≤ 16777216) {v : D} (hv2 : v = .list (ns.map .str) ∨ v = .tuple (ns.map .str)) (d : Int) (τ : Tp) :
    callK tb (k + 2) 22 [.sh (eF fs), .sh (.int d), .sh v] τ = some (.sh (.int (walkLen d (sett fs d ns))), τ) := by
  rw [call_s h22 rfl]
  have hs := rows_s (k := k) h21 nd wf hv hl hv2 d τ
  obtain ⟨d', y4, hloop⟩ := lturn_loop (eF fs) v (sett fs d ns) d 0 none τ
  simp [startE_s, hs]
  simp at hloop
  simp [hloop]
end
end Pv
namespace Pv
open PySem L2 PySem.Spec PyProof.Rows
theorem compL_ex {b : DG} {e : DD} {env : Ev} {Q : D → Prop} : ∀ {ds : List D}, (∀ x ∈ ds, ∀ τ, ∃ env1 y τ', b x env = some env1 ∧ e env1 τ = some (y, τ') ∧ Q y) → ∀ τ, ∃ ys τ', compL b yes e ds env τ = some (ys, τ') ∧ ys.length = ds.length ∧ ∀ y ∈ ys, Q y
  | [], _, τ => ⟨[], τ, rfl, rfl, fun y h => by cases h⟩
  | x :: xs, h, τ => by
    obtain ⟨env1, y, τ1, h1, h2, h3⟩ := h x List.mem_cons_self τ
    obtain ⟨ys, τ2, h4, h5, h6⟩ := compL_ex (b := b) (e := e) (env := env) (Q := Q) (ds := xs) (fun z hz => h z (List.mem_cons_of_mem _ hz)) τ1
    refine ⟨y :: ys, τ2, ?_, by rw [List.length_cons, List.length_cons, h5], fun z hz => ?_⟩
    · rw [compL_cons h1, yes_s, bnd_s, if_pos rfl, h2, bnd_s, h4, bnd_s]
    · rcases List.mem_cons.mp hz with rfl | hz
      · exact h3
      · exact h6 z hz
theorem strs_of {P : Str → Prop} : ∀ {ys : List D}, (∀ y ∈ ys, ∃ n, y = .str n ∧ P n) → ∃ ns : List Str, ys = ns.map .str ∧ ∀ n ∈ ns, P n
  | [], _ => ⟨[], rfl, fun n h => by cases h⟩
  | y :: ys, h => by
    obtain ⟨n, rfl, hn⟩ := h y List.mem_cons_self
    obtain ⟨ns, rfl, hs⟩ := strs_of fun z hz => h z (List.mem_cons_of_mem _ hz)
    refine ⟨n :: ns, rfl, fun m hm => ?_⟩
    rcases List.mem_cons.mp hm with rfl | hm
    · exact hn
    · exact hs m hm
/-- an item at a drawn place -/
theorem ix_in {xs : List D} {r : Int} (h0 : 0 ≤ r) (h1 : r < xs.length) : ∃ x ∈ xs, ixV (.list xs) (.int r) = some (.sh x) := by
  refine ⟨xs[r.toNat]'(by omega), List.getElem_mem _, ?_⟩
  show (L2.atI xs r).map Vl.sh = _
  have := atI_mem (xs := xs) (i := r.toNat) (by omega)
  rw [show ((r.toNat : Nat) : Int) = r by omega] at this
  rw [this]; rfl
def names6 : List Str := ["ann", "bob", "cy", "dee", "eve", "fay"]
structure GoodF (m : Nat) (fs : Fk) : Prop where
  nm : fnames fs = names6.take fs.length
  l1 : 1 ≤ fs.length
  l2 : fs.length ≤ m
  l6 : m ≤ 6
  bd : ∀ p ∈ fs, 0 ≤ p.2.1 ∧ p.2.1 ≤ p.2.2 ∧ p.2.2 ≤ 40
theorem names6_nd : names6.Nodup := by decide +kernel
theorem GoodF.nd {m : Nat} {fs : Fk} (h : GoodF m fs) : (fnames fs).Nodup := by
  rw [h.nm]
  exact names6_nd.sublist (List.take_sublist _ _)
theorem GoodF.wf {m : Nat} {fs : Fk} (h : GoodF m fs) : Wf fs := fun p hp => (h.bd p hp).2.1
section
variable {tb : Nat → Option Df} {k : Nat}
theorem folk_loop (h4 : tb 4 = some d4) {size wide long begin : Int} (hw : 0 < wide ∧ wide ≤ 41) (hl : 0 < long ∧ long ≤ 20) (hb : 0 ≤ begin ∧ begin < 42 - wide) : ∀ (ns : List Str) (acc : List D) (x6 x7 : Option Vl) (τ : Tp), acc.length + ns.length ≤ 1000 →
    ∃ fs τ' y6 y7, forL (gN 6) (sSeq (sAsg 7 (dBin addV (dVar 4) (shD (dDef (callK tb (k + 1) 4) (vTap 0 (vCons (dVar 2) (vNil))))))) (sMut 5 appV (dCons (dTup (dCons (dVar 6) (dCons (dVar 7) (dCons (shD (dCl min2 (dCons (dK (.int 40)) (dCons (shD (dBin addV (dVar 7) (shD (dDef (callK tb (k + 1) 4) (vTap 0 (vCons (dVar 3) (vNil))))))) (dNil))))) (dNil))))) (dNil)))) (ns.map .str) [some .tp, some (.sh (.int size)), some (.sh (.int wide)), some (.sh (.int long)), some (.sh (.int begin)), some (.ow acc), x6, x7] τ
      = some (.nx [some .tp, some (.sh (.int size)), some (.sh (.int wide)), some (.sh (.int long)), some (.sh (.int begin)), some (.ow (acc ++ fs.map e1)), y6, y7], τ') ∧ fnames fs = ns ∧ ∀ p ∈ fs, 0 ≤ p.2.1 ∧ p.2.1 ≤ p.2.2 ∧ p.2.2 ≤ 40
  | [], acc, x6, x7, τ, _ => ⟨[], τ, x6, x7, by simp, rfl, fun p h => by cases h⟩
  | n :: ns, acc, x6, x7, τ, hacc => by
    have hl1 : acc.length < 16777216 := by simp at hacc; omega
    obtain ⟨r1, τ1, g1, g2, g3⟩ := draw (k := k) h4 (m := wide) hw.1 (by omega) τ
    obtain ⟨r2, τ2, g4, g5, g6⟩ := draw (k := k) h4 (m := long) hl.1 (by omega) τ1
    obtain ⟨fs, τ', y6, y7, ih, hn, hb'⟩ := folk_loop (size := size) h4 hw hl hb ns (acc ++ [e1 (n, begin + r1, min 40 (begin + r1 + r2))]) (some (.sh (.str n))) (some (.sh (.int (begin + r1)))) τ2 (by simp at hacc ⊢; omega)
    refine ⟨(n, begin + r1, min 40 (begin + r1 + r2)) :: fs, τ', y6, y7, ?_, ?_, fun p hp => ?_⟩
    · rw [List.map_cons, forL_cons rfl]
      simp [g1, g4, app_s hl1]
      simp [e1] at ih
      simp [ih, e1]
    · show n :: fnames fs = _
      rw [hn]
    · rcases List.mem_cons.mp hp with rfl | hp
      · show 0 ≤ begin + r1 ∧ begin + r1 ≤ min 40 (begin + r1 + r2) ∧ min 40 (begin + r1 + r2) ≤ 40
        omega
      · exact hb' p hp
theorem folk_s (h4 : tb 4 = some d4) (h12 : tb 12 = some d12) {m : Nat} (hm : 1 ≤ m ∧ m ≤ 6) (τ : Tp) : ∃ fs τ', callK tb (k + 2) 12 [.tp, .sh (.int m)] τ = some (.sh (eF fs), τ') ∧ GoodF m fs := by
  rw [call_s h12 rfl]
  obtain ⟨r1, τ1, g1, g2, g3⟩ := draw (k := k) h4 (m := 3) (by decide) (by decide) τ
  obtain ⟨w, hw, ew⟩ := ix_in (xs := [.int 6, .int 20, .int 41]) g2 (by simpa using g3)
  obtain ⟨wide, rfl, hwide⟩ : ∃ wide : Int, w = .int wide ∧ (0 < wide ∧ wide ≤ 41) := by
    simp at hw
    rcases hw with rfl | rfl | rfl
    · exact ⟨_, rfl, by decide⟩
    · exact ⟨_, rfl, by decide⟩
    · exact ⟨_, rfl, by decide⟩
  obtain ⟨r2, τ2, g4, g5, g6⟩ := draw (k := k) h4 (m := 3) (by decide) (by decide) τ1
  obtain ⟨lo, hlo, el⟩ := ix_in (xs := [.int 1, .int 4, .int 20]) g5 (by simpa using g6)
  obtain ⟨long, rfl, hlong⟩ : ∃ long : Int, lo = .int long ∧ (0 < long ∧ long ≤ 20) := by
    simp at hlo
    rcases hlo with rfl | rfl | rfl
    · exact ⟨_, rfl, by decide⟩
    · exact ⟨_, rfl, by decide⟩
    · exact ⟨_, rfl, by decide⟩
  obtain ⟨begin, τ3, g7, g8, g9⟩ := draw (k := k) h4 (m := 42 - wide) (by omega) (by omega) τ2
  obtain ⟨r4, τ4, g10, g11, g12⟩ := draw (k := k) h4 (m := (m : Int)) (by omega) (by omega) τ3
  have hlen : names6.length = 6 := rfl
  obtain ⟨fs, τ', y6, y7, hloop, hn, hb⟩ := folk_loop (k := k) (size := (m : Int)) h4 hwide hlong ⟨g8, g9⟩ (names6.take (1 + r4).toNat) [] none none τ4 (by rw [List.length_take]; simp; omega)
  have hfl : fs.length = (1 + r4).toNat := by
    have := congrArg List.length hn
    rw [List.length_take, hlen] at this
    unfold fnames at this
    rw [List.length_map] at this
    omega
  refine ⟨fs, τ', ?_, ⟨by rw [hn, hfl], by omega, by omega, hm.2, hb⟩⟩
  have hc := cut_to (names6.map PyData.str) (1 + r4).toNat
  rw [show (((1 + r4).toNat : Nat) : Int) = 1 + r4 by omega, ← List.map_take] at hc
  simp [startE_s, g1, ew, g4, el, g7, g10, slD]
  simp [names6] at hc
  simp [hc]
  simp [names6] at hloop
  simp [hloop, eF]
/-- the first of each -/
theorem names_s (h19 : tb 19 = some d19) {α : Type} (f : α → Str) (g : α → List D) (xs : List α) (v : D) (hv : v = .tuple (xs.map fun a => .tuple (.str (f a) :: g a)) ∨ v = .list (xs.map fun a => .tuple (.str (f a) :: g a))) (τ : Tp) : callK tb (k + 1) 19 [.sh v] τ = some (.ow ((xs.map f).map .str), τ) := by
  rw [call_s h19 rfl]
  have hc : ∀ τ, compL (gN 1) yes (shD (dBin ixV (dVar 1) (dK (.int 0)))) (xs.map fun a => .tuple (.str (f a) :: g a)) [some (.sh v), none] τ = some ((xs.map f).map .str, τ) := fun τ => by
    rw [compL_map (fun x => match x with
      | .tuple (a :: _) => a
      | _ => .none) (fun x hx => ?_) τ, List.map_map, List.map_map]
    · rfl
    · obtain ⟨p, _, rfl⟩ := List.mem_map.mp hx
      exact ⟨_, rfl, fun τ => by simp [ix0]⟩
  rcases hv with rfl | rfl <;> (simp [startE_s]; simp at hc; simp [hc])
theorem fnames_s (h19 : tb 19 = some d19) (fs : Fk) (τ : Tp) : callK tb (k + 1) 19 [.sh (eF fs)] τ = some (.ow ((fnames fs).map .str), τ) :=
  names_s h19 (fun p : Str × Int × Int => p.1) (fun p => [.int p.2.1, .int p.2.2]) fs _ (.inl rfl) τ
theorem visits_s (h4 : tb 4 = some d4) (h19 : tb 19 = some d19) (h20 : tb 20 = some d20) {nms : List Str} {F : D} (hF : ∀ k τ, callK tb (k + 1) 19 [.sh F] τ = some (.ow (nms.map .str), τ)) (hne : 1 ≤ nms.length) (hle : nms.length ≤ 100) {m : Nat} (hm : m ≤ 1000) (τ : Tp) :
    ∃ (ns : List Str) (τ' : Tp), callK tb (k + 2) 20 [.tp, .sh F, .sh (.int m)] τ = some (.ow (ns.map .str), τ') ∧ (∀ n ∈ ns, n ∈ nms) ∧ ns.length ≤ m := by
  rw [call_s h20 rfl]
  obtain ⟨r, τ1, g1, g2, g3⟩ := draw (k := k) h4 (m := (m : Int) + 1) (by omega) (by omega) τ
  obtain ⟨ys, τ2, h1, h2, h3⟩ := compL_ex (b := gN 4) (e := shD (dBin ixV (dVar 3) (shD (dDef (callK tb (k + 1) 4) (vTap 0 (vCons (shD (dCl lenV (dCons (dVar 3) (dNil)))) (vNil))))))) (env := [some .tp, some (.sh F), some (.sh (.int m)), some (.sh (.list (nms.map .str))), none]) (Q := fun y => ∃ n, y = .str n ∧ n ∈ nms) (ds := rngL 0 r.toNat) (fun x _ τ => by
    obtain ⟨r2, τ2, f1, f2, f3⟩ := draw (k := k) h4 (m := (nms.length : Int)) (by omega) (by omega) τ
    obtain ⟨y, hy, ey⟩ := ix_in (xs := nms.map PyData.str) f2 (by simpa using f3)
    obtain ⟨n, hn, rfl⟩ := List.mem_map.mp hy
    exact ⟨_, .str n, τ2, rfl, by simp [f1, ey], n, rfl, hn⟩) τ1
  obtain ⟨ns, rfl, hns⟩ := strs_of h3
  refine ⟨ns, τ2, ?_, hns, ?_⟩
  · have hr : r ≤ 16777216 := by omega
    have hr2 : -16777216 ≤ r := by omega
    simp [startE_s, hF, g1, hr, hr2, h1]
  · rw [List.length_map, rngL_len] at h2
    omega
end
end Pv
namespace Pv
open PySem L2 PySem.Spec PyProof.Rows
theorem srtD_map {α : Type} (enc : α → D) (xs : List α) : srtD (xs.map enc) = (xs.mergeSort (W.dataLe false enc)).map enc := by
  unfold srtD
  rw [List.map_mergeSort]
  intros
  rfl
theorem sort_eq {α : Type} {le : α → α → Bool} (tr : ∀ a b c, le a b = true → le b c = true → le a c = true) (to : ∀ a b, (le a b || le b a) = true) (an : ∀ a b, le a b = true → le b a = true → a = b) {l m : List α} (hp : m.Perm l) (hs : m.Pairwise fun a b => le a b = true) : l.mergeSort le = m :=
  List.Perm.eq_of_pairwise (fun a b _ _ h1 h2 => an a b h1 h2) (List.pairwise_mergeSort tr to l) hs ((List.mergeSort_perm l le).trans hp.symm)
abbrev leI : Int → Int → Bool := fun a b => decide (a ≤ b)
theorem srtD_ints (ns : List Int) : srtD (ns.map .int) = (ns.mergeSort leI).map .int := by
  have := srtD_map (fun n : Int => PyData.int n) ns
  rw [W.dataLe_int (fun n : Int => n)] at this
  exact this
theorem alike_ii (a b : Int) : W.alike (.int a) (.int b) = true := by rfl
theorem srtOk_ints (ns : List Int) : srtOk (ns.map .int) = true := by
  unfold srtOk
  rw [Bool.and_eq_true, Bool.and_eq_true]
  refine ⟨⟨?_, ?_⟩, ?_⟩
  · unfold allk
    rw [List.all_eq_true]
    intro x hx
    rw [List.all_eq_true]
    intro y hy
    obtain ⟨a, _, rfl⟩ := List.mem_map.mp hx
    obtain ⟨b, _, rfl⟩ := List.mem_map.mp hy
    rfl
  · unfold sbl
    rw [Bool.or_eq_true]
    right
    rw [List.all_eq_true]
    intro x hx
    obtain ⟨a, _, rfl⟩ := List.mem_map.mp hx
    rfl
  · rw [W.depth_ints]
    decide
theorem srtC_ints (ns : List Int) : srtC [.list (ns.map .int)] = some (.ow ((ns.mergeSort leI).map .int)) := by
  show (if srtOk (ns.map .int) = true then some (Vl.ow (srtD (ns.map .int))) else none) = _
  rw [if_pos (srtOk_ints ns), srtD_ints]
theorem leI_eq {l m : List Int} (hp : m.Perm l) (hs : m.Pairwise fun a b => a ≤ b) : l.mergeSort leI = m :=
  sort_eq (le := leI) (fun a b c h1 h2 => decide_eq_true (Int.le_trans (of_decide_eq_true h1) (of_decide_eq_true h2))) (fun a b => by
    rw [Bool.or_eq_true]
    exact (Int.le_total a b).imp decide_eq_true decide_eq_true) (fun a b h1 h2 => Int.le_antisymm (of_decide_eq_true h1) (of_decide_eq_true h2)) hp (hs.imp fun h => decide_eq_true h)
/-- the one between -/
theorem med_s {a d b : Int} (h : a ≤ b) : ∃ x y, [a, d, b].mergeSort leI = [x, min (max d a) b, y] := by
  by_cases h1 : d ≤ a
  · refine ⟨d, b, ?_⟩
    rw [show min (max d a) b = a by omega]
    exact leI_eq (List.Perm.swap a d [b]) (by simp; omega)
  · by_cases h2 : d ≤ b
    · refine ⟨a, b, ?_⟩
      rw [show min (max d a) b = d by omega]
      exact leI_eq (List.Perm.refl _) (by simp; omega)
    · refine ⟨a, d, ?_⟩
      rw [show min (max d a) b = b by omega]
      exact leI_eq (List.Perm.cons a (List.Perm.swap d b [])) (by simp; omega)
theorem ix1l (xs : List D) (x y : D) : ixV (.list (x :: y :: xs)) (.int 1) = some (.sh y) := by
  show (L2.atI (x :: y :: xs) ((1 : Nat) : Int)).map Vl.sh = _
  rw [atI_nat (v := y) rfl]; rfl
theorem ix0l (xs : List D) (x : D) : ixV (.list (x :: xs)) (.int 0) = some (.sh x) := by
  show (L2.atI (x :: xs) ((0 : Nat) : Int)).map Vl.sh = _
  rw [atI_nat (v := x) rfl]; rfl
/-! what visits do to all degrees -/
theorem sett_shape {fs : Fk} {ns : List Str} (hb : ∀ p ∈ fs, 0 ≤ p.2.1 ∧ p.2.1 ≤ p.2.2 ∧ p.2.2 ≤ 40) (hv : ∀ n ∈ ns, n ∈ fnames fs) : ∀ a b : Int, 0 ≤ a → a ≤ b → b ≤ 40 → ∃ a' b', 0 ≤ a' ∧ a' ≤ b' ∧ b' ≤ 40 ∧ ∀ d, 0 ≤ d → d ≤ 40 → endAt fs (min (max d a) b) ns = min (max d a') b' := by
  induction ns with
  | nil => exact fun a b h0 h1 h2 => ⟨a, b, h0, h1, h2, fun d _ _ => rfl⟩
  | cons n ns ih =>
    intro a b h0 h1 h2
    obtain ⟨hp, _⟩ := fget_mem (hv n List.mem_cons_self)
    obtain ⟨q0, q1, q2⟩ := hb _ hp
    obtain ⟨a', b', g0, g1, g2, g3⟩ := ih (fun m hm => hv m (List.mem_cons_of_mem _ hm)) (clamp (fget fs n) a) (clamp (fget fs n) b) (by unfold clamp; omega) (by unfold clamp; omega) (by unfold clamp; omega)
    refine ⟨a', b', g0, g1, g2, fun d d0 d1 => ?_⟩
    rw [← g3 d d0 d1]
    unfold endAt
    rw [sett, List.getLastD_cons]
    have e : clamp (fget fs n) (min (max d a) b) = min (max d (clamp (fget fs n) a)) (clamp (fget fs n) b) := by unfold clamp; omega
    rw [e]
theorem end_med {fs : Fk} {ns : List Str} (hb : ∀ p ∈ fs, 0 ≤ p.2.1 ∧ p.2.1 ≤ p.2.2 ∧ p.2.2 ≤ 40) (hv : ∀ n ∈ ns, n ∈ fnames fs) : 0 ≤ endAt fs 0 ns ∧ endAt fs 0 ns ≤ endAt fs 40 ns ∧ endAt fs 40 ns ≤ 40 ∧ ∀ d, 0 ≤ d → d ≤ 40 → endAt fs d ns = min (max d (endAt fs 0 ns)) (endAt fs 40 ns) := by
  obtain ⟨a, b, h0, h1, h2, h3⟩ := sett_shape hb hv 0 40 (by omega) (by omega) (by omega)
  have e0 := h3 0 (by omega) (by omega)
  have e1 := h3 40 (by omega) (by omega)
  rw [show min (max 0 0) 40 = (0 : Int) by omega, show min (max 0 a) b = a by omega] at e0
  rw [show min (max 40 0) 40 = (40 : Int) by omega, show min (max 40 a) b = b by omega] at e1
  refine ⟨by omega, by omega, by omega, fun d d0 d1 => ?_⟩
  have := h3 d d0 d1
  rw [show min (max d 0) 40 = d by omega] at this
  rw [this, e0, e1]
end Pv
namespace Pv
open PySem L2 PySem.Spec PyProof.Rows
/-- s goes on, with P -/
def Nx (s : DS) (env : Ev) (τ : Tp) (P : Ev → Prop) : Prop := ∃ env' τ', s env τ = some (.nx env', τ') ∧ P env'
/-- s goes on (or goes to the loop's next turn), with P -/
def Nc (s : DS) (env : Ev) (τ : Tp) (P : Ev → Prop) : Prop := ∃ env' τ', (s env τ = some (.nx env', τ') ∨ s env τ = some (.ct env', τ')) ∧ P env'
/-- s returns v -/
def Rt (s : DS) (env : Ev) (τ : Tp) (P : Vl → Prop) : Prop := ∃ v τ', s env τ = some (.rt v, τ') ∧ P v
section
variable {s t : DS} {env env' : Ev} {τ τ' τ1 : Tp} {P Q : Ev → Prop} {R : Vl → Prop} {c : DT} {it : DI} {b : DG}
theorem Nx.one (h : s env τ = some (.nx env', τ')) (p : P env') : Nx s env τ P := ⟨env', τ', h, p⟩
theorem Nx.nc (h : Nx s env τ P) : Nc s env τ P := let ⟨e, t, h1, h2⟩ := h; ⟨e, t, .inl h1, h2⟩
theorem Nx.mono (h : Nx s env τ P) (m : ∀ e, P e → Q e) : Nx s env τ Q := let ⟨e, t, h1, h2⟩ := h; ⟨e, t, h1, m e h2⟩
theorem Nx.seq (h : Nx s env τ P) (k : ∀ env' τ', P env' → Nx t env' τ' Q) : Nx (sSeq s t) env τ Q := by
  obtain ⟨e, τ1, h1, h2⟩ := h
  obtain ⟨e2, τ2, h3, h4⟩ := k e τ1 h2
  exact ⟨e2, τ2, by rw [sSeq_s, h1]; exact h3, h4⟩
theorem Nx.nil (p : P env) : Nx sNil env τ P := ⟨env, τ, rfl, p⟩
theorem Nx.ifT (h : c env τ = some (true, τ1)) (k : Nx s env τ1 P) : Nx (sIf c s t) env τ P := by
  obtain ⟨e, τ2, h1, h2⟩ := k
  exact ⟨e, τ2, by rw [sIf_s, h]; exact h1, h2⟩
theorem Nx.ifF (h : c env τ = some (false, τ1)) (k : Nx t env τ1 P) : Nx (sIf c s t) env τ P := by
  obtain ⟨e, τ2, h1, h2⟩ := k
  exact ⟨e, τ2, by rw [sIf_s, h]; exact h1, h2⟩
/-- a check that does not strike -/
theorem Nx.chk (h : c env τ = some (false, τ1)) (p : P env) : Nx (sIf c s sNil) env τ P := Nx.ifF h (.nil p)
theorem Rt.seq (h : Nx s env τ P) (k : ∀ env' τ', P env' → Rt t env' τ' R) : Rt (sSeq s t) env τ R := by
  obtain ⟨e, τ1, h1, h2⟩ := h
  obtain ⟨v, τ2, h3, h4⟩ := k e τ1 h2
  exact ⟨v, τ2, by rw [sSeq_s, h1]; exact h3, h4⟩
theorem Rt.one {v : Vl} (h : s env τ = some (.rt v, τ')) (p : R v) : Rt s env τ R := ⟨v, τ', h, p⟩
theorem Nx.loop {ds : List D} (I : Nat → Ev → Prop) (h : it env τ = some (ds, τ1)) (h0 : I 0 env) (step : ∀ (j : Nat) d env τ, ds[j]? = some d → I j env → ∃ env1, b d env = some env1 ∧ Nc s env1 τ (I (j + 1))) (fin : ∀ env', I ds.length env' → P env') : Nx (sFor it b s) env τ P := by
  obtain ⟨e, τ2, h1, h2⟩ := forL_ind (b := b) (body := s) (fun j e _ => I j e) (ds := ds) (i := 0) (env := env) (τ := τ1) h0 (fun j d env τ hj hI => by
    rw [Nat.zero_add] at hI
    obtain ⟨env1, g1, e, τ2, g2, g3⟩ := step j d env τ hj hI
    exact ⟨env1, e, τ2, g1, g2, by rw [Nat.zero_add]; exact g3⟩)
  rw [Nat.zero_add] at h2
  exact ⟨e, τ2, by rw [sFor_s, h]; exact h1, fin e h2⟩
/-- the invariant is the same at each turn -/
theorem Nx.loopI {ds : List D} (I : Ev → Prop) (h : it env τ = some (ds, τ1)) (h0 : I env) (step : ∀ d env τ, d ∈ ds → I env → ∃ env1, b d env = some env1 ∧ Nx s env1 τ I) (fin : ∀ env', I env' → P env') : Nx (sFor it b s) env τ P :=
  Nx.loop (fun _ e => I e) h h0 (fun j d env τ hj hI => by
    obtain ⟨env1, g1, g2⟩ := step d env τ (List.mem_of_getElem? hj) hI
    exact ⟨env1, g1, g2.nc⟩) fin
end
section
variable {tb : Nat → Option Df} {k : Nat}
theorem call_rt {i np nn : Nat} {b : (Nat → Cal) → DS} {as : List Vl} {τ : Tp} {R : Vl → Prop} (ht : tb i = some ⟨np, nn, b⟩) (h : as.length = np) (r : Rt (b (callK tb k)) (startE nn as) τ R) : ∃ v τ', callK tb (k + 1) i as τ = some (v, τ') ∧ R v := by
  obtain ⟨v, τ', h1, h2⟩ := r
  refine ⟨v, τ', ?_, h2⟩
  rw [call_s ht h]
  show bnd (b (callK tb k) (startE nn as) τ) _ = _
  rw [h1]
  rfl
end
theorem law_rt {b : DS} {n : Nat} {ns : List Int} (h : Rt b (lawE n) ⟨ns, 0, 0⟩ fun v => v = .sh (.bool true)) : ∃ τ, b (lawE n) ⟨ns, 0, 0⟩ = some (.rt (.sh (.bool true)), τ) := by
  obtain ⟨v, τ, h1, rfl⟩ := h
  exact ⟨τ, h1⟩
theorem lk_ints (ns : List Int) (h : ns.length ≤ 16777216) : Lk 1 (.list (ns.map .int)) := .inr ⟨_, .inl rfl, by simpa using h, fun x hx => by
  obtain ⟨a, _, rfl⟩ := List.mem_map.mp hx
  exact (rfl : sca (.int a) = true)⟩
theorem lk_int (i : Int) : Lk 0 (.int i) := (rfl : sca (.int i) = true)
theorem lk_ii (i j : Int) : Lk 1 (.tuple [.int i, .int j]) := .inr ⟨_, .inr rfl, by simp, fun x hx => by
  simp at hx
  rcases hx with rfl | rfl
  · exact (rfl : sca (.int i) = true)
  · exact (rfl : sca (.int j) = true)⟩
end Pv
namespace Pv
open PySem L2 PySem.Spec PyProof.Rows
theorem alk_ints (ns : List Int) : alk (ns.map PyData.int) = true := by
  unfold alk
  rw [List.all_eq_true]
  intro x hx
  obtain ⟨a, _, rfl⟩ := List.mem_map.mp hx
  rw [Bool.and_eq_true]
  refine ⟨rfl, ?_⟩
  rw [List.all_eq_true]
  intro y hy
  obtain ⟨b, _, rfl⟩ := List.mem_map.mp hy
  rfl
theorem maxL_ints (n : Int) (ns : List Int) : maxL [.list (.int n :: ns.map .int)] = some (.sh (.int (ns.foldl max n))) := by
  show (if alk ((n :: ns).map PyData.int) = true ∧ PyData.depthAll ((n :: ns).map PyData.int) ≤ 60 then some (Vl.sh (W.maxD (.int n) (ns.map .int))) else none) = _
  rw [if_pos ⟨alk_ints _, by rw [W.depth_ints]; decide⟩, W.maxD_ints]
theorem minL_ints (n : Int) (ns : List Int) : minL [.list (.int n :: ns.map .int)] = some (.sh (.int (ns.foldl min n))) := by
  show (if alk ((n :: ns).map PyData.int) = true ∧ PyData.depthAll ((n :: ns).map PyData.int) ≤ 60 then some (Vl.sh (W.minD (.int n) (ns.map .int))) else none) = _
  rw [if_pos ⟨alk_ints _, by rw [W.depth_ints]; decide⟩, W.minD_ints]
/-- the greatest of a list that is not empty -/
def maxI : List Int → Int
  | [] => 0
  | n :: ns => ns.foldl max n
def minI : List Int → Int
  | [] => 0
  | n :: ns => ns.foldl min n
theorem foldl_max (ns : List Int) : ∀ n : Int, (∀ x ∈ n :: ns, x ≤ ns.foldl max n) ∧ ns.foldl max n ∈ n :: ns := by
  induction ns with
  | nil => intro n; simp
  | cons m ns ih =>
    intro n
    obtain ⟨h1, h2⟩ := ih (max n m)
    rw [List.foldl_cons]
    refine ⟨fun x hx => ?_, ?_⟩
    · have h0 := h1 (max n m) List.mem_cons_self
      rcases List.mem_cons.mp hx with rfl | hx
      · omega
      · rcases List.mem_cons.mp hx with rfl | hx
        · omega
        · exact h1 x (List.mem_cons_of_mem _ hx)
    · rcases List.mem_cons.mp h2 with e | h2
      · rw [e]
        rcases Int.le_total n m with h | h
        · rw [Int.max_eq_right h]; simp
        · rw [Int.max_eq_left h]; simp
      · exact List.mem_cons_of_mem _ (List.mem_cons_of_mem _ h2)
theorem foldl_min (ns : List Int) : ∀ n : Int, (∀ x ∈ n :: ns, ns.foldl min n ≤ x) ∧ ns.foldl min n ∈ n :: ns := by
  induction ns with
  | nil => intro n; simp
  | cons m ns ih =>
    intro n
    obtain ⟨h1, h2⟩ := ih (min n m)
    rw [List.foldl_cons]
    refine ⟨fun x hx => ?_, ?_⟩
    · have h0 := h1 (min n m) List.mem_cons_self
      rcases List.mem_cons.mp hx with rfl | hx
      · omega
      · rcases List.mem_cons.mp hx with rfl | hx
        · omega
        · exact h1 x (List.mem_cons_of_mem _ hx)
    · rcases List.mem_cons.mp h2 with e | h2
      · rw [e]
        rcases Int.le_total n m with h | h
        · rw [Int.min_eq_left h]; simp
        · rw [Int.min_eq_right h]; simp
      · exact List.mem_cons_of_mem _ (List.mem_cons_of_mem _ h2)
theorem maxI_le {ns : List Int} {x : Int} (h : x ∈ ns) : x ≤ maxI ns := by
  cases ns with
  | nil => cases h
  | cons n ns => exact (foldl_max ns n).1 x h
theorem maxI_mem {ns : List Int} (h : ns ≠ []) : maxI ns ∈ ns := by
  cases ns with
  | nil => exact absurd rfl h
  | cons n ns => exact (foldl_max ns n).2
theorem le_minI {ns : List Int} {x : Int} (h : x ∈ ns) : minI ns ≤ x := by
  cases ns with
  | nil => cases h
  | cons n ns => exact (foldl_min ns n).1 x h
theorem minI_mem {ns : List Int} (h : ns ≠ []) : minI ns ∈ ns := by
  cases ns with
  | nil => exact absurd rfl h
  | cons n ns => exact (foldl_min ns n).2
theorem maxL_v {ns : List Int} (h : ns ≠ []) : maxL [.list (ns.map .int)] = some (.sh (.int (maxI ns))) := by
  cases ns with
  | nil => exact absurd rfl h
  | cons n ns => exact maxL_ints n ns
theorem minL_v {ns : List Int} (h : ns ≠ []) : minL [.list (ns.map .int)] = some (.sh (.int (minI ns))) := by
  cases ns with
  | nil => exact absurd rfl h
  | cons n ns => exact minL_ints n ns
theorem maxI_eq {ns : List Int} {m : Int} (h1 : m ∈ ns) (h2 : ∀ x ∈ ns, x ≤ m) : maxI ns = m :=
  Int.le_antisymm (h2 _ (maxI_mem fun e => by rw [e] at h1; cases h1)) (maxI_le h1)
theorem minI_eq {ns : List Int} {m : Int} (h1 : m ∈ ns) (h2 : ∀ x ∈ ns, m ≤ x) : minI ns = m :=
  Int.le_antisymm (le_minI h1) (h2 _ (minI_mem fun e => by rw [e] at h1; cases h1))
/-! visits put together -/
theorem end_cons (fs : Fk) (d : Int) (n : Str) (ns : List Str) : endAt fs d (n :: ns) = endAt fs (clamp (fget fs n) d) ns := by
  unfold endAt
  rw [sett, List.getLastD_cons]
theorem end_app (fs : Fk) : ∀ (ns ms : List Str) (d : Int), endAt fs d (ns ++ ms) = endAt fs (endAt fs d ns) ms
  | [], ms, d => rfl
  | n :: ns, ms, d => by
    rw [List.cons_append, end_cons, end_cons, end_app fs ns ms]
theorem walk_app (fs : Fk) : ∀ (ns ms : List Str) (d : Int), walkLen d (sett fs d (ns ++ ms)) = walkLen d (sett fs d ns) + walkLen (endAt fs d ns) (sett fs (endAt fs d ns) ms)
  | [], ms, d => by
    rw [List.nil_append]
    show _ = 0 + _
    rw [Int.zero_add]; rfl
  | n :: ns, ms, d => by
    rw [List.cons_append, sett, sett, walkLen, walkLen, walk_app fs ns ms, end_cons]
    omega
def lowS (fs : Fk) (ns : List Str) : Int := maxI (0 :: ns.map fun n => (fget fs n).2.1)
def highS (fs : Fk) (ns : List Str) : Int := minI (40 :: ns.map fun n => (fget fs n).2.2)
theorem meet_gen {fs : Fk} (wf : Wf fs) : ∀ (ns : List Str), (∀ n ∈ ns, n ∈ fnames fs) → ∀ a b M m : Int, (M ≤ m ∧ a = M ∧ b = m) ∨ (m < M ∧ a = b) →
    let M' := (ns.map fun n => (fget fs n).2.1).foldl max M
    let m' := (ns.map fun n => (fget fs n).2.2).foldl min m
    (M' ≤ m' ∧ endAt fs a ns = M' ∧ endAt fs b ns = m') ∨ (m' < M' ∧ endAt fs a ns = endAt fs b ns)
  | [], _, a, b, M, m, h => h
  | n :: ns, hv, a, b, M, m, h => by
    have hw := wf _ (fget_mem (hv n List.mem_cons_self)).1
    have := meet_gen wf ns (fun k hk => hv k (List.mem_cons_of_mem _ hk)) (clamp (fget fs n) a) (clamp (fget fs n) b) (max M (fget fs n).2.1) (min m (fget fs n).2.2) (by unfold clamp; omega)
    rw [end_cons, end_cons]
    exact this
theorem meet {fs : Fk} (wf : Wf fs) {ns : List Str} (hv : ∀ n ∈ ns, n ∈ fnames fs) : (lowS fs ns ≤ highS fs ns ∧ endAt fs 0 ns = lowS fs ns ∧ endAt fs 40 ns = highS fs ns) ∨ (highS fs ns < lowS fs ns ∧ endAt fs 0 ns = endAt fs 40 ns) :=
  meet_gen wf ns hv 0 40 0 40 (.inl ⟨by omega, rfl, rfl⟩)
theorem fget_self {fs : Fk} (nd : (fnames fs).Nodup) {p : Str × Int × Int} (h : p ∈ fs) : fget fs p.1 = p := by
  induction fs with
  | nil => cases h
  | cons q fs ih =>
    have nd' : q.1 ∉ fnames fs ∧ (fnames fs).Nodup := List.nodup_cons.mp nd
    unfold fget
    rcases List.mem_cons.mp h with rfl | h
    · rw [List.find?_cons_of_pos (by simp)]
      rfl
    · have : q.1 ≠ p.1 := fun e => nd'.1 (by rw [e]; exact List.mem_map.mpr ⟨p, h, rfl⟩)
      rw [List.find?_cons_of_neg (by simpa using this)]
      exact ih nd'.2 h
/-- those who are among the visits -/
def vis (fs : Fk) (ns : List Str) : Fk := fs.filter fun p => decide (p.1 ∈ ns)
theorem vis_low {fs : Fk} (nd : (fnames fs).Nodup) {ns : List Str} (hv : ∀ n ∈ ns, n ∈ fnames fs) : maxI ((vis fs ns).map (fun p => p.2.1) ++ [0]) = lowS fs ns := by
  refine maxI_eq ?_ fun x hx => ?_
  · have := maxI_mem (ns := 0 :: ns.map fun n => (fget fs n).2.1) (by simp)
    rcases List.mem_cons.mp this with e | h
    · rw [show lowS fs ns = 0 from e]; simp
    · obtain ⟨n, hn, e⟩ := List.mem_map.mp h
      refine List.mem_append_left _ (List.mem_map.mpr ⟨fget fs n, ?_, e⟩)
      obtain ⟨h1, h2⟩ := fget_mem (hv n hn)
      exact List.mem_filter.mpr ⟨h1, decide_eq_true (by rw [h2]; exact hn)⟩
  · rcases List.mem_append.mp hx with hx | hx
    · obtain ⟨p, hp, rfl⟩ := List.mem_map.mp hx
      obtain ⟨h1, h2⟩ := List.mem_filter.mp hp
      refine maxI_le (List.mem_cons_of_mem _ (List.mem_map.mpr ⟨p.1, of_decide_eq_true h2, ?_⟩))
      rw [fget_self nd h1]
    · rw [List.mem_singleton.mp hx]
      exact maxI_le List.mem_cons_self
theorem vis_high {fs : Fk} (nd : (fnames fs).Nodup) {ns : List Str} (hv : ∀ n ∈ ns, n ∈ fnames fs) : minI ((vis fs ns).map (fun p => p.2.2) ++ [40]) = highS fs ns := by
  refine minI_eq ?_ fun x hx => ?_
  · have := minI_mem (ns := 40 :: ns.map fun n => (fget fs n).2.2) (by simp)
    rcases List.mem_cons.mp this with e | h
    · rw [show highS fs ns = 40 from e]; simp
    · obtain ⟨n, hn, e⟩ := List.mem_map.mp h
      refine List.mem_append_left _ (List.mem_map.mpr ⟨fget fs n, ?_, e⟩)
      obtain ⟨h1, h2⟩ := fget_mem (hv n hn)
      exact List.mem_filter.mpr ⟨h1, decide_eq_true (by rw [h2]; exact hn)⟩
  · rcases List.mem_append.mp hx with hx | hx
    · obtain ⟨p, hp, rfl⟩ := List.mem_map.mp hx
      obtain ⟨h1, h2⟩ := List.mem_filter.mp hp
      refine le_minI (List.mem_cons_of_mem _ (List.mem_map.mpr ⟨p.1, of_decide_eq_true h2, ?_⟩))
      rw [fget_self nd h1]
    · rw [List.mem_singleton.mp hx]
      exact le_minI List.mem_cons_self
/-- a text among texts -/
theorem in_strs {n : Str} {ns : List Str} : inV (.str n) (.list (ns.map .str)) = some (.sh (.bool (decide (n ∈ ns)))) := by
  have h : inB (.str n) (.list (ns.map .str)) = some ((ns.map PyData.str).any fun z => PyData.eqv z (.str n)) := by
    show (if min (PyData.depthAll (ns.map PyData.str)) (PyData.str n).depth ≤ 60 then _ else none) = _
    rw [if_pos (Nat.le_trans (Nat.min_le_right _ _) (by simp [PyData.depth]))]
  unfold inV
  rw [h, Option.map_some]
  congr 3
  by_cases hn : n ∈ ns
  · rw [decide_eq_true hn, List.any_eq_true]
    exact ⟨.str n, List.mem_map.mpr ⟨n, hn, rfl⟩, by simp [PyData.eqv]⟩
  · rw [decide_eq_false hn, List.any_eq_false]
    intro x hx
    obtain ⟨m, hm, rfl⟩ := List.mem_map.mp hx
    simp only [PyData.eqv]
    intro e
    exact hn (by rw [← eq_of_beq e]; exact hm)
theorem beq_int (a b : Int) : (a == b) = decide (a = b) := by
  by_cases h : a = b
  · subst h; simp
  · rw [beq_eq_false_iff_ne.mpr h, decide_eq_false h]
theorem eqv_ii (a b c d : Int) : PyData.eqv (.tuple [.int a, .int b]) (.tuple [.int c, .int d]) = (decide (a = c) && decide (b = d)) := by
  simp only [PyData.eqv, PyData.eqvAll, beq_int, Bool.and_true]
@[simp] theorem ne_tii {a b c d : Int} : neV (.tuple [.int a, .int b]) (.tuple [.int c, .int d]) = some (.sh (.bool (!(decide (a = c) && decide (b = d))))) := by
  unfold neV
  rw [if_pos (by simp [PyData.depth, PyData.depthAll]), eqv_ii]
@[simp] theorem eq_tii {a b c d : Int} : eqV (.tuple [.int a, .int b]) (.tuple [.int c, .int d]) = some (.sh (.bool (decide (a = c) && decide (b = d)))) := by
  unfold eqV
  rw [if_pos (by simp [PyData.depth, PyData.depthAll]), eqv_ii]
theorem ne_of {d e : D} (hd : nb d = true) (he : nb e = true) (h : min d.depth e.depth ≤ 60) (n : d ≠ e) : neV d e = some (.sh (.bool true)) := by
  unfold neV
  rw [if_pos h]
  cases q : PyData.eqv d e with
  | false => rfl
  | true => exact absurd ((eqv_iff hd he).mp q) n
theorem eq_of {d e : D} (hd : nb d = true) (he : nb e = true) (h : min d.depth e.depth ≤ 60) (n : d ≠ e) : eqV d e = some (.sh (.bool false)) := by
  unfold eqV
  rw [if_pos h]
  cases q : PyData.eqv d e with
  | false => rfl
  | true => exact absurd ((eqv_iff hd he).mp q) n
end Pv
namespace Pv
open PySem L2 PySem.Spec PyProof.Rows
/-- how much a day from d on turns -/
def turnD (fs : Fk) (os : List Str) (d : Int) : Int := walkLen d (sett fs d os)
/-- .. each day behind the first -/
def eachD (fs : Fk) (os : List Str) : Int := turnD fs os (endAt fs 0 os)
section
variable {tb : Nat → Option Df} {k : Nat} {fs : Fk} {os : List Str} {v : D} {d : Int}
theorem last_ints {xs : List Int} (h : xs ≠ []) (d : Int) : ixV (.list (xs.map .int)) (.int (-1)) = some (.sh (.int (xs.getLastD d))) := by
  cases xs with
  | nil => exact absurd rfl h
  | cons x xs =>
    obtain ⟨ys, e⟩ := map_last x xs
    rw [e, ixm1, List.getLastD_cons]
theorem first_s (h15 : tb 15 = some d15) (h16 : tb 16 = some d16) (h26 : tb 26 = some d26) (nd : (fnames fs).Nodup) (hv : ∀ n ∈ os, n ∈ fnames fs) (hne : os ≠ []) (hl : os.length ≤ 16777200) (hv2 : v = .list (os.map .str) ∨ v = .tuple (os.map .str)) (τ : Tp) :
    callK tb (k + 3) 26 [.sh (eF fs), .sh (.int d), .sh v] τ = some (.sh (.int (endAt fs d os)), τ) := by
  rw [call_s h26 rfl]
  have hs := settings_s (k := k) h15 h16 nd hv (by omega) hv2 d τ
  have hne2 : sett fs d os ≠ [] := fun e => by
    have := sett_len fs d os
    rw [e] at this
    exact hne (List.length_eq_zero_iff.mp this.symm)
  have hx := last_ints hne2 d
  simp [startE_s, hs, hx]
  simp [endAt]
theorem farset_s (h15 : tb 15 = some d15) (h16 : tb 16 = some d16) (h26 : tb 26 = some d26) (h27 : tb 27 = some d27) (nd : (fnames fs).Nodup) (hv : ∀ n ∈ os, n ∈ fnames fs) (hne : os ≠ []) (hl : os.length ≤ 16777200) (hv2 : v = .list (os.map .str) ∨ v = .tuple (os.map .str)) (n : Int) (τ : Tp) :
    callK tb (k + 4) 27 [.sh (eF fs), .sh (.int d), .sh v, .sh (.int n)] τ = some (.sh (.int (if 0 < n then endAt fs d os else d)), τ) := by
  rw [call_s h27 rfl]
  have hs := first_s (k := k) (d := d) h15 h16 h26 nd hv hne hl hv2 τ
  by_cases h : 0 < n
  · simp [startE_s, hs, h]
  · simp [startE_s, h]
theorem each_s (h15 : tb 15 = some d15) (h16 : tb 16 = some d16) (h17 : tb 17 = some d17) (h26 : tb 26 = some d26) (h28 : tb 28 = some d28) (nd : (fnames fs).Nodup) (hv : ∀ n ∈ os, n ∈ fnames fs) (hne : os ≠ []) (hl : os.length ≤ 16777200) (hv2 : v = .list (os.map .str) ∨ v = .tuple (os.map .str)) (τ : Tp) :
    callK tb (k + 4) 28 [.sh (eF fs), .sh v] τ = some (.sh (.int (eachD fs os)), τ) := by
  rw [call_s h28 rfl]
  have hs := first_s (k := k) (d := 0) h15 h16 h26 nd hv hne hl hv2 τ
  have ht := turned_s (k := k) h15 h16 h17 nd hv hl hv2 (endAt fs 0 os) τ
  simp [startE_s, hs, ht, eachD, turnD]
theorem farturn_s (h15 : tb 15 = some d15) (h16 : tb 16 = some d16) (h17 : tb 17 = some d17) (h26 : tb 26 = some d26) (h28 : tb 28 = some d28) (h29 : tb 29 = some d29) (nd : (fnames fs).Nodup) (hv : ∀ n ∈ os, n ∈ fnames fs) (hne : os ≠ []) (hl : os.length ≤ 16777200) (hv2 : v = .list (os.map .str) ∨ v = .tuple (os.map .str)) (n : Int) (hn : 0 ≤ n ∧ n < 18446744073709551616) (τ : Tp) :
    callK tb (k + 5) 29 [.sh (eF fs), .sh (.int d), .sh v, .sh (.int n)] τ = some (.sh (.int (if n = 0 then 0 else turnD fs os d + (n - 1) * eachD fs os)), τ) := by
  rw [call_s h29 rfl]
  have he := each_s (k := k) h15 h16 h17 h26 h28 nd hv hne hl hv2 τ
  have ht := turned_s (k := k + 1) h15 h16 h17 nd hv hl hv2 d τ
  by_cases h : n = 0
  · simp [startE_s, h]
  · have hm := mul_l (i := n - 1) (j := eachD fs os) (by omega) (by omega)
    simp [startE_s, h, ht, he, hm, turnD]
end
/-! ### orders drawn -/
theorem ins_perm {α : Type} (x : α) (xs : List α) (i : Nat) : (xs.take i ++ [x] ++ xs.drop i).Perm (xs ++ [x]) := by
  have h1 : ([x] ++ xs.drop i).Perm (xs.drop i ++ [x]) := List.perm_append_comm
  have h2 := List.Perm.append_left (xs.take i) h1
  have h3 : xs.take i ++ (xs.drop i ++ [x]) = xs ++ [x] := by rw [← List.append_assoc, List.take_append_drop]
  rw [h3] at h2
  rw [List.append_assoc]
  exact h2
section
variable {tb : Nat → Option Df} {k : Nat}
theorem order_s (h4 : tb 4 = some d4) (h30 : tb 30 = some d30) {m : Nat} (hm : m ≤ 1000) (τ : Tp) : ∃ (is : List Nat) (τ' : Tp), callK tb (k + 2) 30 [.tp, .sh (.int m)] τ = some (.sh (.tuple (is.map fun (i : Nat) => .int (i : Int))), τ') ∧ is.Perm (List.range m) := by
  have main : ∃ v τ', callK tb (k + 2) 30 [.tp, .sh (.int m)] τ = some (v, τ') ∧ ∃ is : List Nat, v = .sh (.tuple (is.map fun (i : Nat) => .int (i : Int))) ∧ is.Perm (List.range m) := by
    refine call_rt h30 rfl ?_
    refine Rt.seq (P := fun env => env = [some .tp, some (.sh (.int m)), some (.ow []), none]) (Nx.one (τ' := τ) (by simp [startE_s]) rfl) fun env τ he => ?_
    subst he
    refine Rt.seq (P := fun env => ∃ (is : List Nat) (w : Option Vl), env = [some .tp, some (.sh (.int m)), some (.ow (is.map fun (i : Nat) => .int (i : Int))), w] ∧ is.Perm (List.range m)) (Nx.loop (ds := rngL 0 m) (τ1 := τ) (fun q env => q ≤ m ∧ ∃ (is : List Nat) (w : Option Vl), env = [some .tp, some (.sh (.int m)), some (.ow (is.map fun (i : Nat) => .int (i : Int))), w] ∧ is.Perm (List.range q)) ?_ ⟨Nat.zero_le _, [], none, rfl, .nil⟩ (fun q d env τ hq hI => ?_) fun env hI => ?_) fun env τ he => ?_
    · have h1 : (m : Int) ≤ 16777216 := by omega
      have h2 : (-16777216 : Int) ≤ m := by omega
      simp [h1, h2]
    · obtain ⟨hle, is, w, rfl, hp⟩ := hI
      have hd := rngL_get hq
      have hq2 : q < m := by
        have := (List.getElem?_eq_some_iff.mp hq).1
        rwa [rngL_len] at this
      subst hd
      refine ⟨_, rfl, Nx.nc ?_⟩
      obtain ⟨r, τ1, g1, g2, g3⟩ := draw (k := k) h4 (m := (q : Int) + 1) (by omega) (by omega) τ
      have hlen : is.length = q := by rw [hp.length_eq, List.length_range]
      have hi : insV (is.map fun (i : Nat) => .int (i : Int)) [.int r, .int (q : Int)] = some ((is.take r.toNat ++ [q] ++ is.drop r.toNat).map fun (i : Nat) => .int (i : Int)) := by
        show (if (is.map fun (i : Nat) => PyData.int (i : Int)).length < 16777216 ∧ 0 ≤ r ∧ r < 16777216 then _ else _) = _
        rw [if_pos ⟨by rw [List.length_map]; omega, g2, by omega⟩]
        simp
      refine Nx.one (env' := [some .tp, some (.sh (.int m)), some (.ow ((is.take r.toNat ++ [q] ++ is.drop r.toNat).map fun (i : Nat) => .int (i : Int))), some (.sh (.int (0 + (q : Int))))]) (τ' := τ1) ?_ ⟨hq2, _, _, rfl, ?_⟩
      · simp [g1, hi]
      · rw [List.range_succ]
        exact (ins_perm q is r.toNat).trans (hp.append_right [q])
    · obtain ⟨_, is, w, he, hp⟩ := hI
      rw [rngL_len] at hp
      exact ⟨is, w, he, hp⟩
    · obtain ⟨is, w, rfl, hp⟩ := he
      exact Rt.one (τ' := τ) (by simp) ⟨is, rfl, hp⟩
  obtain ⟨v, τ', h1, is, rfl, hp⟩ := main
  exact ⟨is, τ', h1, hp⟩
/-- an order of all who have a name -/
theorem lorder_s (h4 : tb 4 = some d4) (h30 : tb 30 = some d30) (h31 : tb 31 = some d31) {α : Type} (f : α → Str) (g : α → List D) (xs : List α) (hl : xs.length ≤ 1000) (τ : Tp) :
    ∃ (os : List Str) (τ' : Tp), callK tb (k + 3) 31 [.tp, .sh (.tuple (xs.map fun a => .tuple (.str (f a) :: g a)))] τ = some (.sh (.tuple (os.map .str)), τ') ∧ os.Perm (xs.map f) := by
  obtain ⟨is, τ', g1, hp⟩ := order_s (k := k) h4 h30 (m := xs.length) hl τ
  have hin : ∀ i ∈ is, i < xs.length := fun i hi => List.mem_range.mp (hp.mem_iff.mp hi)
  refine ⟨is.filterMap fun i => xs[i]?.map f, τ', ?_, ?_⟩
  · rw [call_s h31 rfl]
    have hc : ∀ (env : Ev) τ, env[1]? = some (some (.sh (.tuple (xs.map fun a => .tuple (.str (f a) :: g a))))) → env.length = 3 → compL (gN 2) yes (shD (dBin ixV (shD (dBin ixV (dVar 1) (dVar 2))) (dK (.int 0)))) (is.map fun (i : Nat) => .int (i : Int)) env τ = some ((is.filterMap fun i => xs[i]?.map f).map .str, τ) := fun env τ e1 el => by
      rw [compL_map (fun x => match x with
        | .int i => match xs[i.toNat]? with
          | some a => .str (f a)
          | none => .none
        | _ => .none) (fun x hx => ?_) τ, List.map_map]
      · congr 2
        clear hp g1
        induction is with
        | nil => rfl
        | cons i is ih =>
          have hi := hin i List.mem_cons_self
          have e : xs[i]? = some xs[i] := List.getElem?_eq_getElem hi
          rw [List.map_cons, ih fun j hj => hin j (List.mem_cons_of_mem _ hj), List.filterMap_cons, e]
          simp [e]
      · obtain ⟨i, hi, rfl⟩ := List.mem_map.mp hx
        have hi2 := hin i hi
        have e : xs[i]? = some xs[i] := List.getElem?_eq_getElem hi2
        refine ⟨_, rfl, fun τ => ?_⟩
        have q1 : (env.set 2 (some (.sh (.int (i : Int)))))[1]? = some (some (.sh (.tuple (xs.map fun a => .tuple (.str (f a) :: g a))))) := by rw [List.getElem?_set_ne (by decide)]; exact e1
        have q2 : (env.set 2 (some (.sh (.int (i : Int)))))[2]? = some (some (.sh (.int (i : Int)))) := List.getElem?_set_self (by omega)
        have q3 : ixV (.tuple (xs.map fun a => .tuple (.str (f a) :: g a))) (.int (i : Int)) = some (.sh (.tuple (.str (f xs[i]) :: g xs[i]))) := by
          show (L2.atI (xs.map fun a => PyData.tuple (.str (f a) :: g a)) (i : Int)).map Vl.sh = _
          rw [atI_nat (v := .tuple (.str (f xs[i]) :: g xs[i])) (by rw [List.getElem?_map, e]; rfl)]
          rfl
        simp only [shD_s, dBin_s, dVar_s, q1, q2, bnd_s, q3, Option.map_some, dK_s, ix0]
        simp [e]
    have h := hc [some .tp, some (.sh (.tuple (xs.map fun a => .tuple (.str (f a) :: g a)))), none] τ' rfl rfl
    simp [startE_s, g1, h]
  · have h1 := List.Perm.filterMap (fun i => xs[i]?.map f) hp
    refine h1.trans ?_
    have : ∀ xs : List α, (List.range xs.length).filterMap (fun i => xs[i]?.map f) = xs.map f := fun xs => by
      clear h1 hp hin g1
      induction xs with
      | nil => rfl
      | cons x xs ih =>
        rw [List.length_cons, List.range_succ_eq_map, List.filterMap_cons, List.filterMap_map, List.map_cons]
        simp only [List.getElem?_cons_zero, Option.map_some]
        rw [← ih]
        rfl
    rw [this]
end
end Pv
namespace Pv
open PySem L2 PySem.Spec PyProof.Rows
def Bd (fs : Fk) : Prop := ∀ p ∈ fs, 0 ≤ p.2.1 ∧ p.2.1 ≤ p.2.2 ∧ p.2.2 ≤ 40
theorem Bd.wf {fs : Fk} (h : Bd fs) : Wf fs := fun p hp => (h p hp).2.1
theorem still {fs : Fk} {x : Int} : ∀ {os : List Str}, (∀ n ∈ os, clamp (fget fs n) x = x) → turnD fs os x = 0 ∧ endAt fs x os = x
  | [], _ => ⟨rfl, rfl⟩
  | n :: os, h => by
    have hn := h n List.mem_cons_self
    obtain ⟨h1, h2⟩ := still (fs := fs) (x := x) (os := os) fun m hm => h m (List.mem_cons_of_mem _ hm)
    unfold turnD at h1 ⊢
    rw [sett, walkLen, hn, end_cons, hn, h1, h2]
    refine ⟨?_, rfl⟩
    unfold absI
    split <;> omega
section
variable {fs : Fk} {os : List Str}
theorem turn_same (bd : Bd fs) (hv : ∀ n ∈ os, n ∈ fnames fs) {x y : Int} (hx : endAt fs 0 os ≤ x ∧ x ≤ endAt fs 40 os) (hy : endAt fs 0 os ≤ y ∧ y ≤ endAt fs 40 os) : turnD fs os x = turnD fs os y := by
  rcases meet bd.wf hv with ⟨h1, h2, h3⟩ | ⟨h1, h2⟩
  · have key : ∀ z, endAt fs 0 os ≤ z ∧ z ≤ endAt fs 40 os → turnD fs os z = 0 := fun z hz => (still fun n hn => by
      have l : (fget fs n).2.1 ≤ lowS fs os := maxI_le (List.mem_cons_of_mem _ (List.mem_map.mpr ⟨n, hn, rfl⟩))
      have r : highS fs os ≤ (fget fs n).2.2 := le_minI (List.mem_cons_of_mem _ (List.mem_map.mpr ⟨n, hn, rfl⟩))
      unfold clamp
      omega).1
    rw [key x hx, key y hy]
  · rw [show x = y by omega]
theorem end_in (bd : Bd fs) (hv : ∀ n ∈ os, n ∈ fnames fs) {d : Int} (h0 : 0 ≤ d) (h1 : d ≤ 40) : endAt fs 0 os ≤ endAt fs d os ∧ endAt fs d os ≤ endAt fs 40 os ∧ 0 ≤ endAt fs d os ∧ endAt fs d os ≤ 40 := by
  obtain ⟨a, b, c, e⟩ := end_med bd hv
  rw [e d h0 h1]
  omega
theorem end_idem (bd : Bd fs) (hv : ∀ n ∈ os, n ∈ fnames fs) {d : Int} (h0 : 0 ≤ d) (h1 : d ≤ 40) : endAt fs (endAt fs d os) os = endAt fs d os := by
  obtain ⟨a, b, c, e⟩ := end_med bd hv
  obtain ⟨i1, i2, i3, i4⟩ := end_in bd hv h0 h1
  rw [e (endAt fs d os) i3 i4]
  omega
theorem turn_each (bd : Bd fs) (hv : ∀ n ∈ os, n ∈ fnames fs) {d : Int} (h0 : 0 ≤ d) (h1 : d ≤ 40) : turnD fs os (endAt fs d os) = eachD fs os := by
  obtain ⟨i1, i2, _, _⟩ := end_in bd hv h0 h1
  obtain ⟨j1, j2, _, _⟩ := end_in bd hv (d := 0) (by omega) (by omega)
  exact turn_same bd hv ⟨i1, i2⟩ ⟨j1, j2⟩
theorem turn_app (xs ys : List Str) (d : Int) : turnD fs (xs ++ ys) d = turnD fs xs d + turnD fs ys (endAt fs d xs) := walk_app fs xs ys d
/-- an order that is begun elsewhere turns as much each day -/
theorem each_rot (bd : Bd fs) {xs ys : List Str} (hx : ∀ n ∈ xs, n ∈ fnames fs) (hy : ∀ n ∈ ys, n ∈ fnames fs) : eachD fs (ys ++ xs) = eachD fs (xs ++ ys) := by
  have hxy : ∀ n ∈ xs ++ ys, n ∈ fnames fs := fun n h => (List.mem_append.mp h).elim (hx n) (hy n)
  have hyx : ∀ n ∈ ys ++ xs, n ∈ fnames fs := fun n h => (List.mem_append.mp h).elim (hy n) (hx n)
  obtain ⟨i1, i2, i3, i4⟩ := end_in bd hxy (d := 0) (by omega) (by omega)
  have e1 := end_idem bd hxy (d := 0) (by omega) (by omega)
  generalize he : endAt fs 0 (xs ++ ys) = e at *
  have x1 := end_in bd hx i3 i4
  rw [end_app] at e1
  have hz : endAt fs (endAt fs e xs) (ys ++ xs) = endAt fs e xs := by rw [end_app, e1]
  have t1 := turn_each bd hyx x1.2.2.1 x1.2.2.2
  rw [hz, turn_app, e1] at t1
  rw [← t1]
  unfold eachD
  rw [he, turn_app]
  omega
end
@[simp] theorem items_l {xs : List D} : itemsD (.list xs) = some xs := rfl
@[simp] theorem items_t {xs : List D} : itemsD (.tuple xs) = some xs := rfl
/-! ### the law's own later day -/
def ld (fs : Fk) : Int → List Str → Fk
  | _, [] => []
  | d, n :: ns => (n, d, clamp (fget fs n) d) :: ld fs (clamp (fget fs n) d) ns
theorem ld_len (fs : Fk) : ∀ (d : Int) (ns : List Str), (ld fs d ns).length = ns.length
  | _, [] => rfl
  | d, n :: ns => by rw [ld, List.length_cons, List.length_cons, ld_len fs _ ns]
theorem ld_sum (fs : Fk) : ∀ (ns : List Str) (d : Int), ((ld fs d ns).map fun p => absI (p.2.1 - p.2.2)).sum = walkLen d (sett fs d ns)
  | [], d => rfl
  | n :: ns, d => by
    rw [ld, List.map_cons, List.sum_cons, ld_sum fs ns, sett, walkLen]
section
variable {tb : Nat → Option Df} {k : Nat} {fs : Fk} {os : List Str} {v : D}
theorem ld_loop (F : D) : ∀ (ns : List Str) (d : Int) (acc : List D) (x4 x5 : Option Vl) (τ : Tp), acc.length + ns.length ≤ 16777216 → ∃ d' y4 y5, forL (gT [4, 5]) (sSeq (sMut 3 appV (dCons (dTup (dCons (dVar 4) (dCons (dVar 2) (dCons (dVar 5) (dNil))))) (dNil))) (sAsg 2 (vD (dVar 5)))) (zipD (ns.map .str) ((sett fs d ns).map .int)) [some (.sh F), some (.sh v), some (.sh (.int d)), some (.ow acc), x4, x5] τ
    = some (.nx [some (.sh F), some (.sh v), some (.sh (.int d')), some (.ow (acc ++ (ld fs d ns).map e1)), y4, y5], τ)
  | [], d, acc, x4, x5, τ, _ => ⟨d, x4, x5, by simp [ld, zipD]⟩
  | n :: ns, d, acc, x4, x5, τ, hl => by
    have hl1 : acc.length < 16777216 := by simp at hl; omega
    obtain ⟨d', y4, y5, ih⟩ := ld_loop F ns (clamp (fget fs n) d) (acc ++ [e1 (n, d, clamp (fget fs n) d)]) (some (.sh (.str n))) (some (.sh (.int (clamp (fget fs n) d)))) τ (by simp at hl ⊢; omega)
    refine ⟨d', y4, y5, ?_⟩
    rw [sett, List.map_cons, List.map_cons]
    show forL _ _ (.tuple [.str n, .int (clamp (fget fs n) d)] :: zipD (ns.map .str) ((sett fs (clamp (fget fs n) d) ns).map .int)) _ τ = _
    rw [forL_cons rfl]
    simp only [e1] at ih
    simp [app_s hl1, ih, ld, e1]
theorem later_s (h21 : tb 21 = some d21) (h32 : tb 32 = some d32) (nd : (fnames fs).Nodup) (wf : Wf fs) (hv : ∀ n ∈ os, n ∈ fnames fs) (hne : os ≠ []) (hl : os.length ≤ 16777216) (hv2 : v = .list (os.map .str) ∨ v = .tuple (os.map .str)) (τ : Tp) :
    callK tb (k + 2) 32 [.sh (eF fs), .sh v] τ = some (.ow ((ld fs (endAt fs 0 os) os).map e1), τ) := by
  rw [call_s h32 rfl]
  have h0 := rows_s (k := k) h21 nd wf hv hl hv2 0 τ
  have hne2 : sett fs 0 os ≠ [] := fun e => by
    have := sett_len fs 0 os
    rw [e] at this
    exact hne (List.length_eq_zero_iff.mp this.symm)
  have hx := last_ints hne2 0
  have h1 := rows_s (k := k) h21 nd wf hv hl hv2 (endAt fs 0 os) τ
  obtain ⟨d', y4, y5, hloop⟩ := ld_loop (fs := fs) (v := v) (eF fs) os (endAt fs 0 os) [] none none τ (by simpa using hl)
  have hend : (sett fs 0 os).getLast?.getD 0 = endAt fs 0 os := by unfold endAt; rw [List.getLastD_eq_getLast?]
  have hit : itemsD v = some (os.map .str) := by rcases hv2 with rfl | rfl <;> rfl
  simp at hloop
  simp [startE_s, h0, hx, hend, h1, hit, hloop]
theorem leach_s (h21 : tb 21 = some d21) (h32 : tb 32 = some d32) (h33 : tb 33 = some d33) (nd : (fnames fs).Nodup) (wf : Wf fs) (hv : ∀ n ∈ os, n ∈ fnames fs) (hne : os ≠ []) (hl : os.length ≤ 16777216) (hv2 : v = .list (os.map .str) ∨ v = .tuple (os.map .str)) (τ : Tp) :
    callK tb (k + 3) 33 [.sh (eF fs), .sh v] τ = some (.sh (.int (eachD fs os)), τ) := by
  rw [call_s h33 rfl]
  have h0 := later_s (k := k) h21 h32 nd wf hv hne hl hv2 τ
  have hc : ∀ (env : Ev) τ, env.length = 5 → compL (gT [2, 3, 4]) yes (shD (dCl absC (dCons (shD (dBin subV (dVar 3) (dVar 4))) (dNil)))) ((ld fs (endAt fs 0 os) os).map e1) env τ = some (((ld fs (endAt fs 0 os) os).map fun p => absI (p.2.1 - p.2.2)).map .int, τ) := fun env τ el => by
    rw [compL_map (fun x => match x with
      | .tuple [_, .int a, .int b] => .int (absI (a - b))
      | _ => .none) (fun x hx => ?_) τ, List.map_map, List.map_map]
    · rfl
    · obtain ⟨p, _, rfl⟩ := List.mem_map.mp hx
      refine ⟨((env.set 2 (some (.sh (.str p.1)))).set 3 (some (.sh (.int p.2.1)))).set 4 (some (.sh (.int p.2.2))), rfl, fun τ => ?_⟩
      have q3 : (((env.set 2 (some (.sh (.str p.1)))).set 3 (some (.sh (.int p.2.1)))).set 4 (some (.sh (.int p.2.2))))[3]? = some (some (.sh (.int p.2.1))) := by
        rw [List.getElem?_set_ne (by decide), List.getElem?_set_self (by rw [List.length_set]; omega)]
      have q4 : (((env.set 2 (some (.sh (.str p.1)))).set 3 (some (.sh (.int p.2.1)))).set 4 (some (.sh (.int p.2.2))))[4]? = some (some (.sh (.int p.2.2))) := List.getElem?_set_self (by rw [List.length_set, List.length_set]; omega)
      simp only [shD_s, dCl_s, dCons_s, dNil_s, dBin_s, dVar_s, q3, q4, bnd_s, sub_ii, Option.map_some, abs_i]
      rfl
  have h1 := hc [some (.sh (eF fs)), some (.sh v), none, none, none] τ rfl
  have hs := sum_ints (ns := (ld fs (endAt fs 0 os) os).map fun p => absI (p.2.1 - p.2.2))
  rw [ld_sum] at hs
  have he : eachD fs os = walkLen (endAt fs 0 os) (sett fs (endAt fs 0 os) os) := rfl
  rw [← he] at hs
  simp at h1 hs
  simp [startE_s, h0, h1, hs]
end
end Pv
namespace Pv
open PySem L2 PySem.Spec PyProof.Rows
theorem depthAll_le {n : Nat} : ∀ {xs : List D}, (∀ x ∈ xs, x.depth ≤ n) → PyData.depthAll xs ≤ n
  | [], _ => by rw [PyData.depthAll]; exact Nat.zero_le _
  | x :: xs, h => by
    rw [PyData.depthAll]
    exact Nat.max_le.mpr ⟨h x List.mem_cons_self, depthAll_le fun y hy => h y (List.mem_cons_of_mem _ hy)⟩
theorem srtOk_of {α : Type} {enc : α → D} {xs : List α} (h1 : ∀ a ∈ xs, ∀ b ∈ xs, W.alike (enc a) (enc b) = true) (h2 : (∀ a ∈ xs, ∃ y ys, enc a = .tuple (y :: ys)) ∨ ∀ a ∈ xs, enc a ≠ .none ∧ ∀ ys, enc a ≠ .tuple ys) (h3 : ∀ a ∈ xs, (enc a).depth ≤ 60) : srtOk (xs.map enc) = true := by
  unfold srtOk
  rw [Bool.and_eq_true, Bool.and_eq_true]
  refine ⟨⟨?_, ?_⟩, ?_⟩
  · unfold allk
    rw [List.all_eq_true]
    intro x hx
    rw [List.all_eq_true]
    intro y hy
    obtain ⟨a, ha, rfl⟩ := List.mem_map.mp hx
    obtain ⟨b, hb, rfl⟩ := List.mem_map.mp hy
    exact h1 a ha b hb
  · unfold sbl
    rw [Bool.or_eq_true, List.all_eq_true, List.all_eq_true]
    rcases h2 with h2 | h2
    · left
      intro x hx
      obtain ⟨a, ha, rfl⟩ := List.mem_map.mp hx
      obtain ⟨y, ys, e⟩ := h2 a ha
      rw [e]
    · right
      intro x hx
      obtain ⟨a, ha, rfl⟩ := List.mem_map.mp hx
      obtain ⟨q1, q2⟩ := h2 a ha
      cases e : enc a with
      | none => exact absurd e q1
      | tuple ys => exact absurd e (q2 ys)
      | _ => rfl
  · exact decide_eq_true (depthAll_le fun x hx => by
      obtain ⟨a, ha, rfl⟩ := List.mem_map.mp hx
      exact h3 a ha)
def e2 (p : Str × Int) : D := .tuple [.str p.1, .int p.2]
theorem srtC_e2 (xs : List (Str × Int)) : srtC [.list (xs.map e2)] = some (.ow ((xs.mergeSort (W.dataLe false e2)).map e2)) := by
  show (if srtOk (xs.map e2) = true then some (Vl.ow (srtD (xs.map e2))) else none) = _
  have hk : srtOk (xs.map e2) = true := srtOk_of (enc := e2) (fun _ _ _ _ => rfl) (.inl fun _ _ => ⟨_, _, rfl⟩) fun _ _ => by simp [e2, PyData.depth, PyData.depthAll]
  rw [if_pos hk, srtD_map]
theorem lk_e2 (xs : List (Str × Int)) (h : xs.length ≤ 16777216) : Lk 2 (.list (xs.map e2)) := .inr ⟨_, .inl rfl, by simpa using h, fun x hx => by
  obtain ⟨a, _, rfl⟩ := List.mem_map.mp hx
  refine .inr ⟨_, .inr rfl, by simp, fun y hy => ?_⟩
  simp at hy
  rcases hy with rfl | rfl
  · exact (rfl : sca (.str a.1) = true)
  · exact (rfl : sca (.int a.2) = true)⟩
/-- one who crosses the step s -/
def crosses (s : Int) (p : Str × Int × Int) : Bool := decide (min p.2.1 p.2.2 ≤ s ∧ s < max p.2.1 p.2.2)
def crs (rows : Fk) (s : Int) : Int := ((rows.filter (crosses s)).length : Int)
def crsL (rows : Fk) : List Int := (List.range 40).map fun (i : Nat) => crs rows (i : Int)
section
variable {tb : Nat → Option Df} {k : Nat} {fs : Fk} {os : List Str} {v : D}
theorem moves_s (h15 : tb 15 = some d15) (h16 : tb 16 = some d16) (h26 : tb 26 = some d26) (h35 : tb 35 = some d35) (nd : (fnames fs).Nodup) (hv : ∀ n ∈ os, n ∈ fnames fs) (hne : os ≠ []) (hl : os.length ≤ 16777200) (hv2 : v = .list (os.map .str) ∨ v = .tuple (os.map .str)) (τ : Tp) :
    callK tb (k + 4) 35 [.sh (eF fs), .sh v] τ = some (.ow ((ld fs (endAt fs 0 os) os).map e1), τ) := by
  rw [call_s h35 rfl]
  have h0 := first_s (k := k) (d := 0) h15 h16 h26 nd hv hne hl hv2 τ
  have h1 := settings_s (k := k + 1) h15 h16 nd hv (by omega) hv2 (endAt fs 0 os) τ
  obtain ⟨d', y4, y5, hloop⟩ := ld_loop (fs := fs) (v := v) (eF fs) os (endAt fs 0 os) [] none none τ (by simp; omega)
  have hit : itemsD v = some (os.map .str) := by rcases hv2 with rfl | rfl <;> rfl
  simp at hloop
  simp [startE_s, h0, h1, hit, hloop]
/-- how many cross the step: the list of ones -/
theorem ones_len (rows : Fk) (s : Int) {a b c st : Nat} {env : Ev} {τ : Tp} (hs : env[st]? = some (some (.sh (.int s)))) (hab : a ≠ b ∧ a ≠ c ∧ b ≠ c ∧ st ≠ a ∧ st ≠ b ∧ st ≠ c) (hl : a < env.length ∧ b < env.length ∧ c < env.length) :
    compL (gT [a, b, c]) (tstD (dChn leV ltV (shD (dCl min2 (dCons (dVar b) (dCons (dVar c) (dNil))))) (dVar st) (shD (dCl max2 (dCons (dVar b) (dCons (dVar c) (dNil))))))) (dK (.int 1)) (rows.map e1) env τ = some ((rows.filter (crosses s)).map fun _ => .int 1, τ) := by
  obtain ⟨h1, h2, h3, h4, h5, h6⟩ := hab
  obtain ⟨l1, l2, l3⟩ := hl
  rw [compL_pure (fun x => match x with
    | .tuple [_, .int p, .int q] => decide (min p q ≤ s ∧ s < max p q)
    | _ => false) (fun _ => .int 1) (fun x hx => ?_) τ]
  · rw [List.filter_map, List.map_map]
    rfl
  · obtain ⟨p, _, rfl⟩ := List.mem_map.mp hx
    refine ⟨((env.set a (some (.sh (.str p.1)))).set b (some (.sh (.int p.2.1)))).set c (some (.sh (.int p.2.2))), rfl, fun τ => ⟨?_, fun _ => rfl⟩⟩
    have q1 : (((env.set a (some (.sh (.str p.1)))).set b (some (.sh (.int p.2.1)))).set c (some (.sh (.int p.2.2))))[b]? = some (some (.sh (.int p.2.1))) := by
      rw [List.getElem?_set_ne h3.symm, List.getElem?_set_self (by rw [List.length_set]; exact l2)]
    have q2 : (((env.set a (some (.sh (.str p.1)))).set b (some (.sh (.int p.2.1)))).set c (some (.sh (.int p.2.2))))[c]? = some (some (.sh (.int p.2.2))) := List.getElem?_set_self (by rw [List.length_set, List.length_set]; exact l3)
    have q3 : (((env.set a (some (.sh (.str p.1)))).set b (some (.sh (.int p.2.1)))).set c (some (.sh (.int p.2.2))))[st]? = some (some (.sh (.int s))) := by
      rw [List.getElem?_set_ne h6.symm, List.getElem?_set_ne h5.symm, List.getElem?_set_ne h4.symm]; exact hs
    simp only [tstD_s, dChn_s, shD_s, dCl_s, dCons_s, dNil_s, dVar_s, q1, q2, q3, bnd_s, min2_ii, max2_ii, Option.map_some, le_ii, lt_ii, e1]
    by_cases c1 : min p.2.1 p.2.2 ≤ s
    · simp [c1]
    · simp [c1]
theorem crossed_s (h15 : tb 15 = some d15) (h16 : tb 16 = some d16) (h26 : tb 26 = some d26) (h35 : tb 35 = some d35) (h36 : tb 36 = some d36) (nd : (fnames fs).Nodup) (hv : ∀ n ∈ os, n ∈ fnames fs) (hne : os ≠ []) (hl : os.length ≤ 16777200) (hv2 : v = .list (os.map .str) ∨ v = .tuple (os.map .str)) (τ : Tp) :
    callK tb (k + 5) 36 [.sh (eF fs), .sh v] τ = some (.ow ((crsL (ld fs (endAt fs 0 os) os)).map .int), τ) := by
  have hm := moves_s (k := k) h15 h16 h26 h35 nd hv hne hl hv2 τ
  generalize ld fs (endAt fs 0 os) os = rows at hm ⊢
  have loop : ∀ (n m : Nat) (acc : List D) (x4 x5 x6 x7 : Option Vl) (τ : Tp), acc.length + n ≤ 1000 → m + n = 40 → ∃ y4 y5 y6 y7, forL (gN 4) (sMut 3 appV (dCons (shD (dCl lenV (dCons (shD (dComp [5, 6, 7] (dIt (dVar 2)) (gT [5, 6, 7]) (tstD (dChn leV ltV (shD (dCl min2 (dCons (dVar 6) (dCons (dVar 7) (dNil))))) (dVar 4) (shD (dCl max2 (dCons (dVar 6) (dCons (dVar 7) (dNil))))))) (dK (.int 1)))) (dNil)))) (dNil))) ((List.range' m n).map fun (i : Nat) => .int (i : Int)) [some (.sh (eF fs)), some (.sh v), some (.sh (.list (rows.map e1))), some (.ow acc), x4, x5, x6, x7] τ
      = some (.nx [some (.sh (eF fs)), some (.sh v), some (.sh (.list (rows.map e1))), some (.ow (acc ++ (List.range' m n).map fun (i : Nat) => .int (crs rows (i : Int)))), y4, y5, y6, y7], τ) := fun n => by
    induction n with
    | zero => exact fun m acc x4 x5 x6 x7 τ _ _ => ⟨x4, x5, x6, x7, by simp⟩
    | succ n ih =>
      intro m acc x4 x5 x6 x7 τ ha hmn
      obtain ⟨y4, y5, y6, y7, h⟩ := ih (m + 1) (acc ++ [.int (crs rows (m : Int))]) (some (.sh (.int (m : Int)))) x5 x6 x7 τ (by simp; omega) (by omega)
      refine ⟨y4, y5, y6, y7, ?_⟩
      rw [List.range'_succ, List.map_cons, forL_cons rfl]
      have ho := ones_len rows (m : Int) (a := 5) (b := 6) (c := 7) (st := 4) (env := [some (.sh (eF fs)), some (.sh v), some (.sh (.list (rows.map e1))), some (.ow acc), some (.sh (.int (m : Int))), none, none, none]) (τ := τ) rfl (by decide) (by simp)
      have hl1 : acc.length < 16777216 := by omega
      have hc : (((rows.filter (crosses (m : Int))).map fun _ => PyData.int 1).length : Int) = crs rows (m : Int) := by rw [List.length_map]; rfl
      simp at h
      simp [ho, app_s hl1]
      have hc2 : ((rows.filter (crosses (m : Int))).length : Int) = crs rows (m : Int) := rfl
      simp [hc2, h]
  rw [call_s h36 rfl]
  obtain ⟨y4, y5, y6, y7, h⟩ := loop 40 0 [] none none none none τ (by simp) rfl
  have hr : rngL 0 40 = (List.range' 0 40).map fun (i : Nat) => .int (i : Int) := by
    unfold rngL
    rw [List.range_eq_range']
    simp
  have hr2 : (crsL rows).map PyData.int = (List.range' 0 40).map fun (i : Nat) => .int (crs rows (i : Int)) := by
    unfold crsL
    rw [List.range_eq_range', List.map_map]
    rfl
  rw [hr2]
  simp [startE_s, hm, hr]
  simp at h
  simp [h]
def shareL (rows : Fk) : List (Str × Int) := (rows.map fun p => (p.1, absI (p.2.1 - p.2.2))).mergeSort (W.dataLe false e2)
theorem shares_s (h15 : tb 15 = some d15) (h16 : tb 16 = some d16) (h26 : tb 26 = some d26) (h35 : tb 35 = some d35) (h37 : tb 37 = some d37) (nd : (fnames fs).Nodup) (hv : ∀ n ∈ os, n ∈ fnames fs) (hne : os ≠ []) (hl : os.length ≤ 16777200) (hv2 : v = .list (os.map .str) ∨ v = .tuple (os.map .str)) (τ : Tp) :
    callK tb (k + 5) 37 [.sh (eF fs), .sh v] τ = some (.ow ((shareL (ld fs (endAt fs 0 os) os)).map e2), τ) := by
  rw [call_s h37 rfl]
  have hm := moves_s (k := k) h15 h16 h26 h35 nd hv hne hl hv2 τ
  generalize ld fs (endAt fs 0 os) os = rows at hm ⊢
  have hc : compL (gT [2, 3, 4]) yes (dTup (dCons (dVar 2) (dCons (shD (dCl absC (dCons (shD (dBin subV (dVar 3) (dVar 4))) (dNil)))) (dNil)))) (rows.map e1) [some (.sh (eF fs)), some (.sh v), none, none, none] τ = some ((rows.map fun p => (p.1, absI (p.2.1 - p.2.2))).map e2, τ) := by
    rw [compL_map (fun x => match x with
      | .tuple [n, .int a, .int b] => .tuple [n, .int (absI (a - b))]
      | _ => .none) (fun x hx => ?_) τ, List.map_map, List.map_map]
    · rfl
    · obtain ⟨p, _, rfl⟩ := List.mem_map.mp hx
      exact ⟨_, rfl, fun τ => by simp [e1]⟩
  have hs := srtC_e2 (rows.map fun p => (p.1, absI (p.2.1 - p.2.2)))
  simp at hc hs
  simp [startE_s, hm, hc, hs]
  rfl
end
theorem perm_sum {xs ys : List Int} (h : xs.Perm ys) : xs.sum = ys.sum := by
  induction h with
  | nil => rfl
  | cons x _ ih => rw [List.sum_cons, List.sum_cons, ih]
  | swap x y l => simp only [List.sum_cons]; omega
  | trans _ _ h1 h2 => rw [h1, h2]
/-! the mathematics of crossings -/
theorem sum_crs_one {a b : Int} (ha : 0 ≤ a ∧ a ≤ 40) (hb : 0 ≤ b ∧ b ≤ 40) : ∀ n : Nat, n ≤ 40 → ((List.range n).map fun (i : Nat) => if min a b ≤ (i : Int) ∧ (i : Int) < max a b then (1 : Int) else 0).sum = max 0 (min (max a b) n - min a b)
  | 0, _ => by simp; omega
  | n + 1, h => by
    rw [List.range_succ, List.map_append, List.sum_append, sum_crs_one ha hb n (by omega)]
    simp only [List.map_cons, List.map_nil, List.sum_cons, List.sum_nil]
    split <;> omega
theorem sum_crs : ∀ (rows : Fk), (∀ p ∈ rows, (0 ≤ p.2.1 ∧ p.2.1 ≤ 40) ∧ 0 ≤ p.2.2 ∧ p.2.2 ≤ 40) → (crsL rows).sum = (rows.map fun p => absI (p.2.1 - p.2.2)).sum
  | [], _ => by
    have : crsL [] = (List.range 40).map fun _ => (0 : Int) := rfl
    rw [this]; rfl
  | p :: rows, h => by
    have ih := sum_crs rows fun q hq => h q (List.mem_cons_of_mem _ hq)
    obtain ⟨ha, hb⟩ := h p List.mem_cons_self
    rw [List.map_cons, List.sum_cons, ← ih]
    have h1 := sum_crs_one ha hb 40 (Nat.le_refl _)
    have e : crsL (p :: rows) = (List.range 40).map fun (i : Nat) => (if min p.2.1 p.2.2 ≤ (i : Int) ∧ (i : Int) < max p.2.1 p.2.2 then (1 : Int) else 0) + crs rows (i : Int) := by
      unfold crsL
      apply List.map_congr_left
      intro i _
      unfold crs
      rw [List.filter_cons]
      unfold crosses
      by_cases c : min p.2.1 p.2.2 ≤ (i : Int) ∧ (i : Int) < max p.2.1 p.2.2
      · rw [if_pos (decide_eq_true c), if_pos c, List.length_cons]; omega
      · rw [if_neg (by simpa using c), if_neg c]; omega
    have add : ∀ (f g : Nat → Int) (xs : List Nat), (xs.map fun i => f i + g i).sum = (xs.map f).sum + (xs.map g).sum := fun f g xs => by
      induction xs with
      | nil => rfl
      | cons x xs ih => simp only [List.map_cons, List.sum_cons, ih]; omega
    rw [e, add (fun i => if min p.2.1 p.2.2 ≤ (i : Int) ∧ (i : Int) < max p.2.1 p.2.2 then (1 : Int) else 0) (fun i => crs rows (i : Int)), h1]
    have : absI (p.2.1 - p.2.2) = max 0 (min (max p.2.1 p.2.2) (40 : Nat) - min p.2.1 p.2.2) := by unfold absI; split <;> omega
    rw [this]
    rfl
theorem ld_bd {fs : Fk} (bd : Bd fs) : ∀ (ns : List Str) (d : Int), (∀ n ∈ ns, n ∈ fnames fs) → 0 ≤ d → d ≤ 40 → ∀ p ∈ ld fs d ns, (0 ≤ p.2.1 ∧ p.2.1 ≤ 40) ∧ 0 ≤ p.2.2 ∧ p.2.2 ≤ 40
  | [], _, _, _, _, p, hp => by cases hp
  | n :: ns, d, hv, h0, h1, p, hp => by
    obtain ⟨q0, q1, q2⟩ := bd _ (fget_mem (hv n List.mem_cons_self)).1
    have c0 : 0 ≤ clamp (fget fs n) d := by unfold clamp; omega
    have c1 : clamp (fget fs n) d ≤ 40 := by unfold clamp; omega
    rw [ld] at hp
    rcases List.mem_cons.mp hp with rfl | hp
    · exact ⟨⟨h0, h1⟩, c0, c1⟩
    · exact ld_bd bd ns _ (fun m hm => hv m (List.mem_cons_of_mem _ hm)) c0 c1 p hp
def upB (s : Int) (p : Str × Int × Int) : Bool := decide (p.2.1 ≤ s ∧ s < p.2.2)
def dnB (s : Int) (p : Str × Int × Int) : Bool := decide (p.2.2 ≤ s ∧ s < p.2.1)
theorem ups_downs (fs : Fk) (s : Int) : ∀ (ns : List Str) (d : Int), (((ld fs d ns).filter (upB s)).length : Int) - ((ld fs d ns).filter (dnB s)).length = (if d ≤ s then 1 else 0) - (if endAt fs d ns ≤ s then 1 else 0)
  | [], d => by
    show ((0 : Nat) : Int) - ((0 : Nat) : Int) = (if d ≤ s then 1 else 0) - (if d ≤ s then 1 else 0)
    omega
  | n :: ns, d => by
    have ih := ups_downs fs s ns (clamp (fget fs n) d)
    rw [end_cons, ld, List.filter_cons, List.filter_cons]
    generalize clamp (fget fs n) d = e at ih ⊢
    unfold upB dnB at *
    by_cases c1 : d ≤ s
    · by_cases c2 : e ≤ s
      · simp only [c1, c2, if_true] at ih ⊢
        have a1 : ¬ (s < e) := by omega
        have a2 : ¬ (s < d) := by omega
        simp [a1, a2] at ih ⊢
        omega
      · have a1 : s < e := by omega
        have a2 : ¬ (s < d) := by omega
        simp [c1, c2, a1, a2] at ih ⊢
        omega
    · have a2 : s < d := by omega
      by_cases c2 : e ≤ s
      · simp [c1, c2, a2] at ih ⊢
        omega
      · simp [c1, c2, a2] at ih ⊢
        omega
theorem ld_step {fs : Fk} : ∀ (ns : List Str) (d : Int), ∀ p ∈ ld fs d ns, p.1 ∈ ns ∧ p.2.2 = clamp (fget fs p.1) p.2.1
  | [], _, p, hp => by cases hp
  | n :: ns, d, p, hp => by
    rw [ld] at hp
    rcases List.mem_cons.mp hp with rfl | hp
    · exact ⟨List.mem_cons_self, rfl⟩
    · obtain ⟨h1, h2⟩ := ld_step ns _ p hp
      exact ⟨List.mem_cons_of_mem _ h1, h2⟩
end Pv
namespace Pv
open PySem L2 PySem.Spec PyProof.Rows
section
variable {tb : Nat → Option Df} {k : Nat}
theorem nof_s (h46 : tb 46 = some d46) (fs : Fk) (τ : Tp) : callK tb (k + 1) 46 [.sh (eF fs)] τ = some (.ow ((fnames fs).map .str), τ) := by
  rw [call_s h46 rfl]
  have hc : ∀ τ, compL (gN 1) yes (shD (dBin ixV (dVar 1) (dK (.int 0)))) (fs.map e1) [some (.sh (eF fs)), none] τ = some ((fnames fs).map .str, τ) := fun τ => by
    rw [compL_map (fun x => match x with
      | .tuple (a :: _) => a
      | _ => .none) (fun x hx => ?_) τ, List.map_map]
    · unfold fnames; rw [List.map_map]; rfl
    · obtain ⟨p, _, rfl⟩ := List.mem_map.mp hx
      exact ⟨_, rfl, fun τ => by simp [ix0, e1]⟩
  unfold eF at hc ⊢
  simp [startE_s]
  try simp at hc
  simp [hc]
def lowI (fs : Fk) : Int := maxI (fs.map fun p => p.2.1)
def highI (fs : Fk) : Int := minI (fs.map fun p => p.2.2)
theorem gl_s (h47 : tb 47 = some d47) {fs : Fk} (hne : fs ≠ []) {v : D} (hv : v = eF fs ∨ v = .list (fs.map e1)) (τ : Tp) : callK tb (k + 1) 47 [.sh v] τ = some (.sh (.int (lowI fs)), τ) := by
  rw [call_s h47 rfl]
  have hc : ∀ τ, compL (gT [1, 2, 3]) yes (dVar 2) (fs.map e1) [some (.sh v), none, none, none] τ = some ((fs.map fun p => p.2.1).map .int, τ) := fun τ => by
    rw [compL_map (fun x => match x with
      | .tuple [_, a, _] => a
      | _ => .none) (fun x hx => ?_) τ, List.map_map, List.map_map]
    · rfl
    · obtain ⟨p, _, rfl⟩ := List.mem_map.mp hx
      exact ⟨_, rfl, fun τ => rfl⟩
  have hm := maxL_v (ns := fs.map fun p => p.2.1) (by simpa using hne)
  rcases hv with rfl | rfl
  · unfold eF at hc ⊢
    simp at hc hm
    simp [startE_s, hc, hm]
    rfl
  · simp at hc hm
    simp [startE_s, hc, hm]
    rfl
theorem lh_s (h48 : tb 48 = some d48) {fs : Fk} (hne : fs ≠ []) {v : D} (hv : v = eF fs ∨ v = .list (fs.map e1)) (τ : Tp) : callK tb (k + 1) 48 [.sh v] τ = some (.sh (.int (highI fs)), τ) := by
  rw [call_s h48 rfl]
  have hc : ∀ τ, compL (gT [1, 2, 3]) yes (dVar 3) (fs.map e1) [some (.sh v), none, none, none] τ = some ((fs.map fun p => p.2.2).map .int, τ) := fun τ => by
    rw [compL_map (fun x => match x with
      | .tuple [_, _, a] => a
      | _ => .none) (fun x hx => ?_) τ, List.map_map, List.map_map]
    · rfl
    · obtain ⟨p, _, rfl⟩ := List.mem_map.mp hx
      exact ⟨_, rfl, fun τ => rfl⟩
  have hm := minL_v (ns := fs.map fun p => p.2.2) (by simpa using hne)
  rcases hv with rfl | rfl
  · unfold eF at hc ⊢
    simp at hc hm
    simp [startE_s, hc, hm]
    rfl
  · simp at hc hm
    simp [startE_s, hc, hm]
    rfl
def leastI (fs : Fk) : Int := 2 * max 0 (lowI fs - highI fs)
theorem low_mem {fs : Fk} (hne : fs ≠ []) : ∃ p ∈ fs, p.2.1 = lowI fs := by
  have := maxI_mem (ns := fs.map fun p => p.2.1) (by simpa using hne)
  obtain ⟨p, hp, e⟩ := List.mem_map.mp this
  exact ⟨p, hp, e⟩
theorem high_mem {fs : Fk} (hne : fs ≠ []) : ∃ p ∈ fs, p.2.2 = highI fs := by
  have := minI_mem (ns := fs.map fun p => p.2.2) (by simpa using hne)
  obtain ⟨p, hp, e⟩ := List.mem_map.mp this
  exact ⟨p, hp, e⟩
theorem low_le {fs : Fk} {p : Str × Int × Int} (h : p ∈ fs) : p.2.1 ≤ lowI fs := maxI_le (List.mem_map.mpr ⟨p, h, rfl⟩)
theorem le_high {fs : Fk} {p : Str × Int × Int} (h : p ∈ fs) : highI fs ≤ p.2.2 := le_minI (List.mem_map.mpr ⟨p, h, rfl⟩)
theorem lowI_bd {fs : Fk} (bd : Bd fs) (hne : fs ≠ []) : 0 ≤ lowI fs ∧ lowI fs ≤ 40 := by
  obtain ⟨p, hp, e⟩ := low_mem hne
  have := bd p hp
  omega
theorem highI_bd {fs : Fk} (bd : Bd fs) (hne : fs ≠ []) : 0 ≤ highI fs ∧ highI fs ≤ 40 := by
  obtain ⟨p, hp, e⟩ := high_mem hne
  have := bd p hp
  omega
theorem least_s (h47 : tb 47 = some d47) (h48 : tb 48 = some d48) (h49 : tb 49 = some d49) {fs : Fk} (hne : fs ≠ []) (τ : Tp) : callK tb (k + 2) 49 [.sh (eF fs)] τ = some (.sh (.int (leastI fs)), τ) := by
  rw [call_s h49 rfl]
  have h1 := gl_s (k := k) h47 hne (.inl rfl) τ
  have h2 := lh_s (k := k) h48 hne (.inl rfl) τ
  have hm := mul_l (i := 2) (j := max 0 (lowI fs - highI fs)) (by omega) (by omega)
  simp [startE_s, h1, h2, hm, leastI]
end
end Pv
namespace Pv
open PySem L2 PySem.Spec PyProof.Rows
def ordR (f : List Str → List (List Str)) : List Str → List Str → List (List Str)
  | _, [] => []
  | pre, y :: ys => (f (pre ++ ys)).map (y :: ·) ++ ordR f (pre ++ [y]) ys
/-- all orders, as they are told here -/
def ordL : Nat → List Str → List (List Str)
  | 0, _ => [[]]
  | n + 1, xs => ordR (ordL n) [] xs
def fct : Nat → Nat
  | 0 => 1
  | n + 1 => (n + 1) * fct n
theorem ordR_len {f : List Str → List (List Str)} {n m : Nat} (h : ∀ xs, xs.length = n → (f xs).length = m) : ∀ (ys pre : List Str), pre.length + ys.length = n + 1 → (ordR f pre ys).length = ys.length * m
  | [], _, _ => by simp [ordR]
  | y :: ys, pre, hl => by
    have h1 := h (pre ++ ys) (by simp at hl ⊢; omega)
    have h2 := ordR_len h ys (pre ++ [y]) (by simp at hl ⊢; omega)
    rw [ordR, List.length_append, List.length_map, h1, h2, List.length_cons, Nat.add_mul, Nat.one_mul, Nat.add_comm]
theorem ordL_len : ∀ (n : Nat) (xs : List Str), xs.length = n → (ordL n xs).length = fct n
  | 0, _, _ => rfl
  | n + 1, xs, h => by
    rw [ordL, ordR_len (m := fct n) (ordL_len n) xs [] (by simpa using h), h]
    rfl
theorem mem_ordR {f : List Str → List (List Str)} {row : List Str} : ∀ (ys pre : List Str), row ∈ ordR f pre ys ↔ ∃ a y b, ys = a ++ y :: b ∧ ∃ r ∈ f (pre ++ a ++ b), row = y :: r
  | [], pre => by simp [ordR]
  | y :: ys, pre => by
    rw [ordR, List.mem_append, mem_ordR ys (pre ++ [y]), List.mem_map]
    constructor
    · rintro (⟨r, h1, rfl⟩ | ⟨a, z, b, rfl, r, h1, rfl⟩)
      · exact ⟨[], y, ys, rfl, r, by simpa using h1, rfl⟩
      · exact ⟨y :: a, z, b, rfl, r, by simpa using h1, rfl⟩
    · rintro ⟨a, z, b, e, r, h1, rfl⟩
      cases a with
      | nil =>
        simp at e
        obtain ⟨rfl, rfl⟩ := e
        exact .inl ⟨r, by simpa using h1, rfl⟩
      | cons c a =>
        simp at e
        obtain ⟨rfl, rfl⟩ := e
        exact .inr ⟨a, z, b, rfl, r, by simpa using h1, rfl⟩
theorem mem_ordL : ∀ (n : Nat) (xs row : List Str), xs.length = n → (row ∈ ordL n xs ↔ row.Perm xs)
  | 0, xs, row, h => by
    have := List.length_eq_zero_iff.mp h
    subst this
    simp [ordL]
  | n + 1, xs, row, h => by
    rw [ordL, mem_ordR]
    constructor
    · rintro ⟨a, y, b, rfl, r, h1, rfl⟩
      have h2 := (mem_ordL n ([] ++ a ++ b) r (by simp at h ⊢; omega)).mp h1
      simp at h2
      exact (h2.cons y).trans List.perm_middle.symm
    · intro hp
      cases row with
      | nil =>
        have := hp.length_eq
        simp at this; omega
      | cons y r =>
        have hy : y ∈ xs := hp.mem_iff.mp List.mem_cons_self
        obtain ⟨a, b, rfl⟩ := List.append_of_mem hy
        have h2 : r.Perm (a ++ b) := (hp.trans List.perm_middle).cons_inv
        exact ⟨a, y, b, rfl, r, (mem_ordL n _ r (by simp at h ⊢; omega)).mpr (by simpa using h2), rfl⟩
theorem nbs_strs : ∀ xs : List Str, nbs (xs.map .str) = true
  | [] => rfl
  | _ :: xs => by rw [List.map_cons, nbs, nbs_strs xs]; rfl
def tupS (r : List Str) : D := .tuple (r.map .str)
section
variable {tb : Nat → Option Df} {k : Nat}
theorem cut_pre (pre : List Str) (y : Str) (ys : List Str) : cutD ((pre ++ y :: ys).map PyData.str) none (some ((pre.length : Nat) : Int)) = pre.map .str := by
  rw [cut_to, ← List.map_take]; simp
theorem cut_suf (pre : List Str) (y : Str) (ys : List Str) : cutD ((pre ++ y :: ys).map PyData.str) (some (((pre.length + 1 : Nat)) : Int)) none = ys.map .str := by
  rw [cut_from, ← List.map_drop]; simp
theorem consRow (y : Str) (rows : List (List Str)) (hb : ∀ r ∈ rows, r.length ≤ 100) {env : Ev} (h2 : env[3]? = some (some (.sh (.str y)))) (hl : 4 < env.length) (τ : Tp) : compL (gN 4) yes (shD (dBin addV (dTup (dCons (dVar 3) (dNil))) (dVar 4))) (rows.map tupS) env τ = some ((rows.map (y :: ·)).map tupS, τ) := by
  rw [compL_map (fun x => match x with
      | .tuple r => .tuple (.str y :: r)
      | _ => .none) (fun x hx => ?_) τ, List.map_map, List.map_map]
  · rfl
  · obtain ⟨r, hr, rfl⟩ := List.mem_map.mp hx
    refine ⟨env.set 4 (some (.sh (tupS r))), rfl, fun τ => ?_⟩
    have h3 : (env.set 4 (some (.sh (tupS r))))[3]? = some (some (.sh (.str y))) := by rw [List.getElem?_set_ne (by decide)]; exact h2
    have h4 : (env.set 4 (some (.sh (tupS r))))[4]? = some (some (.sh (tupS r))) := List.getElem?_set_self hl
    have := hb r hr
    have ha := add_tt (xs := [.str y]) (ys := r.map .str) (by simp; omega)
    simp [h3, h4]
    simp [tupS] at ha ⊢
    simp [ha]
theorem orders_s (h43 : tb 43 = some d43) : ∀ (n : Nat) (xs : List Str) (k : Nat) (τ : Tp), xs.length = n → n ≤ 6 → ∃ v, callK tb (k + n + 1) 43 [.sh (.list (xs.map .str))] τ = some (v, τ) ∧ (v = .ow ((ordL n xs).map tupS) ∨ v = .sh (.list ((ordL n xs).map tupS)))
  | 0, xs, k, τ, h, _ => by
    have := List.length_eq_zero_iff.mp h
    subst this
    rw [call_s h43 rfl]
    have he : eqV (.list []) (.list []) = some (.sh (.bool true)) := eq_true rfl (by decide)
    refine ⟨_, ?_, .inl rfl⟩
    simp [startE_s, he, ordL, tupS]
  | n + 1, xs, k, τ, h, hn => by
    have hf : ∀ m, m ≤ 6 → fct m ≤ 720 := by decide
    have loop : ∀ (ys pre : List Str) (acc : List (List Str)) (x2 x3 x4 : Option Vl) (τ : Tp), xs = pre ++ ys → acc.length + ys.length * 720 ≤ 16777216 → ∃ y2 y3 y4, forL (gT [2, 3]) (sAsg 1 (dBin addV (dVar 1) (shD (dComp [4] (dIt (shD (dDef (callK tb (k + n + 1) 43) (vCons (shD (dBin addV (shD (dSl (dVar 0) (oNone) (oSome (dVar 2)))) (shD (dSl (dVar 0) (oSome (shD (dBin addV (dVar 2) (dK (.int 1))))) (oNone))))) (vNil))))) (gN 4) (yes) (shD (dBin addV (dTup (dCons (dVar 3) (dNil))) (dVar 4))))))) (enumD pre.length (ys.map .str)) [some (.sh (.list (xs.map .str))), some (.sh (.list (acc.map tupS))), x2, x3, x4] τ
        = some (.nx [some (.sh (.list (xs.map .str))), some (.sh (.list ((acc ++ ordR (ordL n) pre ys).map tupS))), y2, y3, y4], τ) := fun ys => by
      induction ys with
      | nil => exact fun pre acc x2 x3 x4 τ _ _ => ⟨x2, x3, x4, by simp [enumD, ordR]⟩
      | cons y ys ih =>
        intro pre acc x2 x3 x4 τ hx ha
        have hlen : (pre ++ ys).length = n := by rw [hx] at h; simp at h ⊢; omega
        obtain ⟨v, hv, hv2⟩ := orders_s h43 n (pre ++ ys) k τ hlen (by omega)
        have hol := ordL_len n _ hlen
        have hfn := hf n (by omega)
        have hcl : ((ordL n (pre ++ ys)).map (y :: ·)).length = fct n := by rw [List.length_map, hol]
        simp only [List.length_cons] at ha
        obtain ⟨y2, y3, y4, hi⟩ := ih (pre ++ [y]) (acc ++ (ordL n (pre ++ ys)).map (y :: ·)) (some (.sh (.int (pre.length : Int)))) (some (.sh (.str y))) x4 τ (by rw [hx]; simp) (by rw [List.length_append, hcl]; omega)
        refine ⟨y2, y3, y4, ?_⟩
        have hb : ∀ r ∈ ordL n (pre ++ ys), r.length ≤ 100 := fun r hr => by
          have := ((mem_ordL n _ r hlen).mp hr).length_eq
          omega
        have e1 := cut_pre pre y ys
        have e2 := cut_suf pre y ys
        have hadd := add_ll (xs := pre.map .str) (ys := ys.map .str) (by simp; simp at hlen; omega)
        have hadd2 := add_ll (xs := acc.map tupS) (ys := ((ordL n (pre ++ ys)).map (y :: ·)).map tupS) (by rw [List.length_map, List.length_map, hcl]; omega)
        have hcr := consRow y (ordL n (pre ++ ys)) hb (env := [some (.sh (.list (xs.map .str))), some (.sh (.list (acc.map tupS))), some (.sh (.int (pre.length : Int))), some (.sh (.str y)), none]) rfl (by simp) τ
        rw [List.map_cons, enumD, forL_cons (env1 := [some (.sh (.list (xs.map .str))), some (.sh (.list (acc.map tupS))), some (.sh (.int (pre.length : Int))), some (.sh (.str y)), x4]) rfl]
        have hE : (sAsg 1 (dBin addV (dVar 1) (shD (dComp [4] (dIt (shD (dDef (callK tb (k + n + 1) 43) (vCons (shD (dBin addV (shD (dSl (dVar 0) (oNone) (oSome (dVar 2)))) (shD (dSl (dVar 0) (oSome (shD (dBin addV (dVar 2) (dK (.int 1))))) (oNone))))) (vNil))))) (gN 4) (yes) (shD (dBin addV (dTup (dCons (dVar 3) (dNil))) (dVar 4))))))) [some (.sh (.list (xs.map .str))), some (.sh (.list (acc.map tupS))), some (.sh (.int (pre.length : Int))), some (.sh (.str y)), x4] τ = some (.nx [some (.sh (.list (xs.map .str))), some (.sh (.list ((acc ++ (ordL n (pre ++ ys)).map (y :: ·)).map tupS))), some (.sh (.int (pre.length : Int))), some (.sh (.str y)), x4], τ) := by
          have hlp : (((pre.length : Nat) : Int) + 1) = ((pre.length + 1 : Nat) : Int) := by omega
          rw [← List.map_append] at hadd hadd2
          simp only [sAsg_s, shD_s, dBin_s, dVar_s, List.getElem?_cons_zero, List.getElem?_cons_succ, bnd_s, dComp_s, dIt_s, dDef_s, vCons_s, vNil_s, dSl_s, oNone_s, oSome_s, dK_s, add_ii, Option.map_some, slD, hlp]
          rw [hx] at hcr ⊢
          rw [e1, e2]
          simp only [Option.map_some, bnd_s, hadd, hv]
          rcases hv2 with rfl | rfl
          · simp only [bnd_s, wipeE_cons, wipeE_nil, List.set_cons_succ, List.set_cons_zero, hcr, hadd2, Option.map_some]
          · simp only [bnd_s, wipeE_cons, wipeE_nil, List.set_cons_succ, List.set_cons_zero, hcr, hadd2, Option.map_some]
        rw [hE]
        have hpl : (pre ++ [y]).length = pre.length + 1 := by simp
        rw [hpl] at hi
        rw [bnd_s, ordR, ← List.append_assoc]
        exact hi
    obtain ⟨y2, y3, y4, hl⟩ := loop xs [] [] none none none τ rfl (by simp; omega)
    refine ⟨_, ?_, .inr rfl⟩
    rw [show k + (n + 1) + 1 = (k + n + 1) + 1 from rfl, call_s h43 rfl]
    have he : eqV (.list (xs.map .str)) (.list []) = some (.sh (.bool false)) := eq_of (nbs_strs xs) rfl (Nat.le_trans (Nat.min_le_right _ _) (by decide)) (by
      cases xs with
      | nil => simp at h
      | cons x xs => simp)
    simp only [List.map_nil, List.length_nil, List.nil_append] at hl
    simp [startE_s]
    try simp at he
    try simp at hl
    simp [he, dEnum, itemsD, hl]
    rfl
end
end Pv
namespace Pv
open PySem L2 PySem.Spec PyProof.Rows
/-- all orders with the first at the beginning -/
def rndL (ns : List Str) : List (List Str) := match ns with
  | [] => []
  | h :: t => (ordL t.length t).map (h :: ·)
theorem mem_rnd {h : Str} {t o : List Str} : o ∈ rndL (h :: t) ↔ ∃ r, r.Perm t ∧ o = h :: r := by
  unfold rndL
  rw [List.mem_map]
  constructor
  · rintro ⟨r, h1, rfl⟩; exact ⟨r, (mem_ordL _ _ _ rfl).mp h1, rfl⟩
  · rintro ⟨r, h1, rfl⟩; exact ⟨r, (mem_ordL _ _ _ rfl).mpr h1, rfl⟩
theorem rnd_perm {ns o : List Str} (h : o ∈ rndL ns) : o.Perm ns := by
  cases ns with
  | nil => cases h
  | cons a t =>
    obtain ⟨r, h1, rfl⟩ := mem_rnd.mp h
    exact h1.cons a
/-- any order, begun elsewhere -/
theorem rnd_rot {ns o : List Str} (hne : ns ≠ []) (h : o.Perm ns) : ∃ a b, o = a ++ b ∧ b ++ a ∈ rndL ns := by
  cases ns with
  | nil => exact absurd rfl hne
  | cons x t =>
    obtain ⟨a, b, rfl⟩ := List.append_of_mem (h.mem_iff.mpr List.mem_cons_self)
    refine ⟨a, x :: b, rfl, mem_rnd.mpr ⟨b ++ a, ?_, rfl⟩⟩
    have h2 : (a ++ b).Perm t := (List.perm_middle.symm.trans h).cons_inv
    exact List.perm_append_comm.trans h2
section
variable {tb : Nat → Option Df} {k : Nat}
theorem round_s (h19 : tb 19 = some d19) (h43 : tb 43 = some d43) (h44 : tb 44 = some d44) {fs : Fk} (hne : fs ≠ []) (hl : fs.length ≤ 6) (τ : Tp) : callK tb (k + 8) 44 [.sh (eF fs)] τ = some (.ow ((rndL (fnames fs)).map tupS), τ) := by
  rw [call_s h44 rfl]
  have h1 := fnames_s (k := k + 6) h19 fs τ
  cases fs with
  | nil => exact absurd rfl hne
  | cons p t =>
    simp only [List.length_cons] at hl
    have h1 : callK tb (k + 7) 19 [.sh (eF (p :: t))] τ = some (.ow ((fnames (p :: t)).map .str), τ) := h1
    have hL : (fnames t).length = t.length := by unfold fnames; rw [List.length_map]
    obtain ⟨v, hv, hv2⟩ := orders_s h43 (fnames t).length (fnames t) (k + 6 - t.length) τ rfl (by rw [hL]; omega)
    rw [show k + 6 - t.length + (fnames t).length + 1 = k + 7 by rw [hL]; omega] at hv
    have hfn : fnames (p :: t) = p.1 :: fnames t := rfl
    have hd : cutD ((fnames (p :: t)).map PyData.str) (some ((1 : Nat) : Int)) none = (fnames t).map .str := by rw [cut_from]; rfl
    have hd : cutD ((fnames (p :: t)).map PyData.str) (some 1) none = (fnames t).map .str := hd
    have hc : ∀ τ, compL (gN 2) yes (shD (dBin addV (dTup (dCons (shD (dBin ixV (dVar 1) (dK (.int 0)))) (dNil))) (dVar 2))) ((ordL (fnames t).length (fnames t)).map tupS) [some (.sh (eF (p :: t))), some (.sh (.list ((fnames (p :: t)).map .str))), none] τ = some (((ordL (fnames t).length (fnames t)).map (p.1 :: ·)).map tupS, τ) := fun τ => by
      rw [compL_map (fun x => match x with
        | .tuple r => .tuple (.str p.1 :: r)
        | _ => .none) (fun x hx => ?_) τ, List.map_map, List.map_map]
      · rfl
      · obtain ⟨r, hr, rfl⟩ := List.mem_map.mp hx
        refine ⟨_, rfl, fun τ => ?_⟩
        have := ((mem_ordL _ _ r rfl).mp hr).length_eq
        have ha := add_tt (xs := [.str p.1]) (ys := r.map .str) (by simp; omega)
        have hi := ix0l ((fnames t).map .str) (.str p.1)
        simp [hfn, hi]
        simp [tupS] at ha ⊢
        simp [ha]
    have hr : rndL (fnames (p :: t)) = (ordL (fnames t).length (fnames t)).map (p.1 :: ·) := rfl
    rw [hr]
    generalize ((ordL (fnames t).length (fnames t)).map (p.1 :: ·)).map tupS = res at hc ⊢
    rcases hv2 with rfl | rfl
    · simp [startE_s, h1, slD, hd, hv, hc]
    · simp [startE_s, h1, slD, hd, hv, hc]
end
end Pv
namespace Pv
open PySem L2 PySem.Spec PyProof.Rows
@[simp] theorem eq_ss {a b : Str} : eqV (.str a) (.str b) = some (.sh (.bool (decide (a = b)))) := by
  unfold eqV
  rw [if_pos (by simp [PyData.depth])]
  by_cases h : a = b
  · subst h; simp [eqv_refl (.str a) rfl]
  · have : PyData.eqv (.str a) (.str b) = false := by
      cases q : PyData.eqv (.str a) (.str b) with
      | false => rfl
      | true => exact absurd (by have := (eqv_iff (d := .str a) (e := .str b) rfl rfl).mp q; cases this; rfl) h
    simp [this, h]
@[simp] theorem ne_ss {a b : Str} : neV (.str a) (.str b) = some (.sh (.bool (decide (a ≠ b)))) := by
  by_cases h : a = b
  · subst h; rw [ne_false rfl (by simp [PyData.depth])]; simp
  · rw [ne_of rfl rfl (by simp [PyData.depth]) (by intro e; cases e; exact h rfl)]; simp [h]
/-- the lesser of how many lie wholly below, and wholly above -/
def lesserI (fs : Fk) (s : Int) : Int := min ((fs.filter fun p => decide (p.2.2 ≤ s)).length : Int) ((fs.filter fun p => decide (s < p.2.1)).length : Int)
def mostL (fs : Fk) : List Int := (List.range 40).map fun (i : Nat) => 2 * lesserI fs (i : Int)
def mostI (fs : Fk) : Int := (mostL fs).sum
def others (fs : Fk) (n : Str) : Fk := fs.filter fun p => decide (p.1 ≠ n)
def mostBy (fs : Fk) (n : Str) : Int := if others fs n = [] then 0 else max (max 0 ((fget fs n).2.1 - highI (others fs n))) (lowI (others fs n) - (fget fs n).2.2)
def onlk (fs : Fk) : List Str := (fnames fs).filter fun n => decide (mostBy fs n = 0)
section
variable {tb : Nat → Option Df} {k : Nat}
theorem lesser_s (h39 : tb 39 = some d39) (fs : Fk) (s : Int) (τ : Tp) : callK tb (k + 1) 39 [.sh (eF fs), .sh (.int s)] τ = some (.sh (.int (lesserI fs s)), τ) := by
  rw [call_s h39 rfl]
  have h1 : ∀ τ, compL (gT [3, 4, 5]) (tst (dBin leV (dVar 5) (dVar 1))) (dK (.int 1)) (fs.map e1) [some (.sh (eF fs)), some (.sh (.int s)), none, none, none, none, none] τ = some ((fs.filter fun p => decide (p.2.2 ≤ s)).map fun _ => .int 1, τ) := fun τ => by
    rw [compL_pure (fun x => match x with
      | .tuple [_, _, .int b] => decide (b ≤ s)
      | _ => false) (fun _ => .int 1) (fun x hx => ?_) τ, List.filter_map, List.map_map]
    · rfl
    · obtain ⟨p, _, rfl⟩ := List.mem_map.mp hx
      exact ⟨_, rfl, fun τ => ⟨by simp [e1], fun _ => rfl⟩⟩
  have h2 : ∀ τ c, compL (gT [3, 4, 5]) (tst (dBin gtV (dVar 4) (dVar 1))) (dK (.int 1)) (fs.map e1) [some (.sh (eF fs)), some (.sh (.int s)), some (.sh (.int c)), none, none, none, none] τ = some ((fs.filter fun p => decide (s < p.2.1)).map fun _ => .int 1, τ) := fun τ c => by
    rw [compL_pure (fun x => match x with
      | .tuple [_, .int b, _] => decide (s < b)
      | _ => false) (fun _ => .int 1) (fun x hx => ?_) τ, List.filter_map, List.map_map]
    · rfl
    · obtain ⟨p, _, rfl⟩ := List.mem_map.mp hx
      exact ⟨_, rfl, fun τ => ⟨by simp [e1], fun _ => rfl⟩⟩
  unfold lesserI
  unfold eF at h1 h2 ⊢
  try simp at h1 h2
  simp [startE_s, h1, h2]
theorem mostL_s (h39 : tb 39 = some d39) (h40 : tb 40 = some d40) {fs : Fk} (hl : fs.length ≤ 1000) (τ : Tp) : callK tb (k + 2) 40 [.sh (eF fs)] τ = some (.ow ((mostL fs).map .int), τ) := by
  rw [call_s h40 rfl]
  have hr : rngL 0 40 = (List.range 40).map fun (i : Nat) => .int (i : Int) := by
    unfold rngL
    simp
  have hc : ∀ τ, compL (gN 1) yes (shD (dBin mulV (dK (.int 2)) (shD (dDef (callK tb (k + 1) 39) (vCons (dVar 0) (vCons (dVar 1) (vNil))))))) ((List.range 40).map fun (i : Nat) => .int (i : Int)) [some (.sh (eF fs)), none] τ = some ((mostL fs).map .int, τ) := fun τ => by
    rw [compL_map (fun x => match x with
      | .int i => .int (2 * lesserI fs i)
      | _ => .none) (fun x hx => ?_) τ, List.map_map]
    · unfold mostL; rw [List.map_map]; rfl
    · obtain ⟨i, _, rfl⟩ := List.mem_map.mp hx
      refine ⟨_, rfl, fun τ => ?_⟩
      have h1 := lesser_s (k := k) h39 fs (i : Int) τ
      have hm := mul_l (i := 2) (j := lesserI fs (i : Int)) (by omega) (by omega)
      simp [h1, hm]
  simp [startE_s, hr]
  try simp at hc
  simp [hc]
theorem most_s (h39 : tb 39 = some d39) (h40 : tb 40 = some d40) (h41 : tb 41 = some d41) {fs : Fk} (hl : fs.length ≤ 1000) (τ : Tp) : callK tb (k + 3) 41 [.sh (eF fs)] τ = some (.sh (.int (mostI fs)), τ) := by
  rw [call_s h41 rfl]
  have h1 := mostL_s (k := k) h39 h40 hl τ
  have h2 := sum_ints (ns := mostL fs)
  try simp at h2
  simp [startE_s, h1, h2, mostI]
theorem find_filter {α : Type} (p : α → Bool) (xs : List α) : xs.find? p = (xs.filter p).head? := by
  induction xs with
  | nil => rfl
  | cons x xs ih =>
    rw [List.find?_cons, List.filter_cons]
    cases p x with
    | true => rfl
    | false => exact ih
theorem mostby_s (h47 : tb 47 = some d47) (h48 : tb 48 = some d48) (h54 : tb 54 = some d54) {fs : Fk} {n : Str} (hn : n ∈ fnames fs) (τ : Tp) : callK tb (k + 2) 54 [.sh (eF fs), .sh (.str n)] τ = some (.sh (.int (mostBy fs n)), τ) := by
  rw [call_s h54 rfl]
  have h1 : ∀ τ, compL (gN 3) (tst (dBin eqV (shD (dBin ixV (dVar 3) (dK (.int 0)))) (dVar 1))) (dVar 3) (fs.map e1) [some (.sh (eF fs)), some (.sh (.str n)), none, none, none] τ = some ((fs.filter fun p => decide (p.1 = n)).map e1, τ) := fun τ => by
    rw [compL_pure (fun x => match x with
      | .tuple [.str a, _, _] => decide (a = n)
      | _ => false) id (fun x hx => ?_) τ, List.filter_map, List.map_id]
    · rfl
    · obtain ⟨p, _, rfl⟩ := List.mem_map.mp hx
      exact ⟨_, rfl, fun τ => ⟨by simp [e1, ix0], fun _ => rfl⟩⟩
  have h2 : ∀ τ d, compL (gN 3) (tst (dBin neV (shD (dBin ixV (dVar 3) (dK (.int 0)))) (dVar 1))) (dVar 3) (fs.map e1) [some (.sh (eF fs)), some (.sh (.str n)), some (.sh d), none, none] τ = some ((others fs n).map e1, τ) := fun τ d => by
    rw [compL_pure (fun x => match x with
      | .tuple [.str a, _, _] => decide (a ≠ n)
      | _ => false) id (fun x hx => ?_) τ, List.filter_map, List.map_id]
    · rfl
    · obtain ⟨p, _, rfl⟩ := List.mem_map.mp hx
      exact ⟨_, rfl, fun τ => ⟨by simp [e1, ix0], fun _ => rfl⟩⟩
  obtain ⟨hm, hm2⟩ := fget_mem hn
  have hff : fget fs n = ((fs.filter fun p => decide (p.1 = n)).head?).getD (n, 0, 0) := by unfold fget; rw [find_filter]
  obtain ⟨rest, hfs⟩ : ∃ rest, (fs.filter fun p => decide (p.1 = n)) = fget fs n :: rest := by
    cases hq : fs.filter fun p => decide (p.1 = n) with
    | nil =>
      have : fget fs n ∈ fs.filter fun p => decide (p.1 = n) := List.mem_filter.mpr ⟨hm, by simpa using hm2⟩
      rw [hq] at this; cases this
    | cons a r => exact ⟨r, by rw [hff, hq]; rfl⟩
  rw [hfs] at h1
  have hix := ix0l (rest.map e1) (e1 (fget fs n))
  by_cases ho : others fs n = []
  · rw [ho] at h2
    have he : eqV (.list []) (.list []) = some (.sh (.bool true)) := eq_true rfl (by decide)
    unfold mostBy
    rw [if_pos ho]
    unfold eF at h1 h2 ⊢
    try simp at h1 h2
    simp [startE_s, h1, h2, hix, he]
  · have he : eqV (.list ((others fs n).map e1)) (.list []) = some (.sh (.bool false)) := by
      refine eq_of ?_ rfl (Nat.le_trans (Nat.min_le_right _ _) (by decide)) (by simpa using ho)
      rw [nb]
      have : ∀ xs : Fk, nbs (xs.map e1) = true := fun xs => by
        induction xs with
        | nil => rfl
        | cons x xs ih => rw [List.map_cons, nbs, ih]; rfl
      exact this _
    have g1 := gl_s (k := k) h47 ho (.inr rfl) τ
    have g2 := lh_s (k := k) h48 ho (.inr rfl) τ
    have i1 : ixV (e1 (fget fs n)) (.int 1) = some (.sh (.int (fget fs n).2.1)) := ix1 _ _ _
    have i2 : ixV (e1 (fget fs n)) (.int 2) = some (.sh (.int (fget fs n).2.2)) := ix2 _ _ _ _
    unfold mostBy
    rw [if_neg ho]
    rw [← max3I_eq]
    unfold eF at h1 h2 ⊢
    try simp at h1 h2 he g1 g2
    simp [startE_s, h1, h2, hix, he, g1, g2, i1, i2, max3]
theorem onlk_s (h46 : tb 46 = some d46) (h47 : tb 47 = some d47) (h48 : tb 48 = some d48) (h54 : tb 54 = some d54) (h55 : tb 55 = some d55) (fs : Fk) (τ : Tp) : callK tb (k + 3) 55 [.sh (eF fs)] τ = some (.sh (.tuple ((onlk fs).map .str)), τ) := by
  rw [call_s h55 rfl]
  have h1 := nof_s (k := k + 1) h46 fs τ
  have hc : ∀ τ, compL (gN 1) (tst (dBin eqV (shD (dDef (callK tb (k + 2) 54) (vCons (dVar 0) (vCons (dVar 1) (vNil))))) (dK (.int 0)))) (dVar 1) ((fnames fs).map .str) [some (.sh (eF fs)), none] τ = some ((onlk fs).map .str, τ) := fun τ => by
    rw [compL_pure (fun x => match x with
      | .str a => decide (mostBy fs a = 0)
      | _ => false) id (fun x hx => ?_) τ, List.filter_map, List.map_id]
    · rfl
    · obtain ⟨n, hn, rfl⟩ := List.mem_map.mp hx
      refine ⟨_, rfl, fun τ => ⟨?_, fun _ => rfl⟩⟩
      have := mostby_s (k := k) h47 h48 h54 hn τ
      simp [this]
  try simp at hc
  simp [startE_s, h1, hc]
end
end Pv
namespace Pv
open PySem L2 PySem.Spec PyProof.Rows
theorem ld_at {fs : Fk} : ∀ (a b : List Str) (n : Str) (d : Int), (n, endAt fs d a, clamp (fget fs n) (endAt fs d a)) ∈ ld fs d (a ++ n :: b)
  | [], b, n, d => by
    show _ ∈ (n, d, clamp (fget fs n) d) :: _
    exact List.mem_cons_self
  | m :: a, b, n, d => by
    rw [end_cons]
    exact List.mem_cons_of_mem _ (ld_at a b n _)
theorem ld_split {fs : Fk} : ∀ (o : List Str) (d : Int) (p : Str × Int × Int), p ∈ ld fs d o → ∃ a b, o = a ++ p.1 :: b ∧ p.2.1 = endAt fs d a ∧ p.2.2 = clamp (fget fs p.1) p.2.1
  | [], d, p, h => by cases h
  | m :: o, d, p, h => by
    rcases List.mem_cons.mp (show p ∈ (m, d, clamp (fget fs m) d) :: ld fs (clamp (fget fs m) d) o from h) with rfl | h
    · exact ⟨[], o, rfl, rfl, rfl⟩
    · obtain ⟨a, b, rfl, h1, h2⟩ := ld_split o _ p h
      exact ⟨m :: a, b, rfl, by rw [end_cons]; exact h1, h2⟩
theorem end_bounds {fs : Fk} {B C : Int} : ∀ (ms : List Str) (x : Int), (∀ m ∈ ms, B ≤ (fget fs m).2.2 ∧ (fget fs m).2.1 ≤ C) → B ≤ x ∧ x ≤ C → B ≤ endAt fs x ms ∧ endAt fs x ms ≤ C
  | [], x, _, h => h
  | m :: ms, x, hm, h => by
    rw [end_cons]
    have h1 := hm m List.mem_cons_self
    refine end_bounds ms _ (fun z hz => hm z (List.mem_cons_of_mem _ hz)) ?_
    unfold clamp
    omega
theorem fget_oth {fs : Fk} {n m : Str} (hm : m ∈ fnames fs) (h : m ≠ n) : fget fs m ∈ others fs n := by
  obtain ⟨h1, h2⟩ := fget_mem hm
  exact List.mem_filter.mpr ⟨h1, by simpa [h2] using h⟩
theorem share_le {fs : Fk} (wf : Wf fs) {o : List Str} (hv : ∀ n ∈ o, n ∈ fnames fs) (nd : o.Nodup) {p : Str × Int × Int} (hp : p ∈ ld fs (endAt fs 0 o) o) : absI (p.2.1 - p.2.2) ≤ mostBy fs p.1 := by
  obtain ⟨a, b, ho, h1, h2⟩ := ld_split o _ p hp
  obtain ⟨n, here, there⟩ := p
  simp only at ho h1 h2 ⊢
  subst ho
  rw [List.nodup_append] at nd
  obtain ⟨nda, ndb, nab⟩ := nd
  rw [List.nodup_cons] at ndb
  have hn : n ∈ fnames fs := hv n (by simp)
  obtain ⟨hm, hm2⟩ := fget_mem hn
  have wfn := wf _ hm
  have hab : ∀ m ∈ a ++ b, m ≠ n ∧ m ∈ fnames fs := fun m hm => by
    rcases List.mem_append.mp hm with h | h
    · exact ⟨nab m h n List.mem_cons_self, hv m (by simp [h])⟩
    · exact ⟨fun e => by subst e; exact ndb.1 h, hv m (by simp [h])⟩
  have hx0 : endAt fs 0 (a ++ n :: b) = endAt fs (clamp (fget fs n) (endAt fs 0 a)) b := by rw [end_app, end_cons]
  rw [hx0] at h1
  by_cases ho : others fs n = []
  · have hnil : a ++ b = [] := by
      cases hq : a ++ b with
      | nil => rfl
      | cons m r =>
        have := hab m (by rw [hq]; exact List.mem_cons_self)
        have := fget_oth this.2 this.1
        rw [ho] at this; cases this
    obtain ⟨rfl, rfl⟩ := List.append_eq_nil_iff.mp hnil
    have h1 : here = clamp (fget fs n) 0 := h1
    unfold mostBy
    rw [if_pos ho]
    unfold clamp at h1 h2
    unfold absI
    split <;> omega
  · unfold mostBy
    rw [if_neg ho]
    have hbd : ∀ m ∈ a ++ b, min (fget fs n).2.1 (highI (others fs n)) ≤ (fget fs m).2.2 ∧ (fget fs m).2.1 ≤ max (fget fs n).2.2 (lowI (others fs n)) := fun m hm => by
      have := hab m hm
      have hmo := fget_oth this.2 this.1
      have q1 := low_le hmo
      have q2 := le_high hmo
      omega
    have e1 := end_bounds b (clamp (fget fs n) (endAt fs 0 a)) (fun m hm => hbd m (List.mem_append_right _ hm)) (by unfold clamp; omega)
    have e2 := end_bounds a _ (fun m hm => hbd m (List.mem_append_left _ hm)) e1
    rw [← h1] at e2
    unfold clamp at h2
    unfold absI
    split <;> omega
/-- who comes just before n -/
theorem before {fs : Fk} (wf : Wf fs) (nd : (fnames fs).Nodup) {n m : Str} (hn : n ∈ fnames fs) (hm : m ∈ fnames fs) (hne : m ≠ n) : ∃ o ∈ rndL (fnames fs), ∃ x y, (n, clamp (fget fs m) x, y) ∈ ld fs (endAt fs 0 o) o ∧ y = clamp (fget fs n) (clamp (fget fs m) x) := by
  obtain ⟨rest, hp⟩ : ∃ rest, (m :: n :: rest).Perm (fnames fs) := by
    obtain ⟨a, b, e⟩ := List.append_of_mem hm
    have h1 : (m :: (a ++ b)).Perm (fnames fs) := by rw [e]; exact List.perm_middle.symm
    have h2 : n ∈ a ++ b := by
      have := h1.mem_iff.mpr hn
      rcases List.mem_cons.mp this with h | h
      · exact absurd h.symm hne
      · exact h
    obtain ⟨c, d, e2⟩ := List.append_of_mem h2
    refine ⟨c ++ d, ?_⟩
    refine List.Perm.trans (List.Perm.cons m ?_) h1
    rw [e2]; exact List.perm_middle.symm
  obtain ⟨a, b, hab, hr⟩ := rnd_rot (by intro e; rw [e] at hn; cases hn) hp
  refine ⟨b ++ a, hr, ?_⟩
  cases a with
  | nil =>
    simp at hab
    subst hab
    exact ⟨endAt fs 0 (m :: n :: rest ++ []), _, by rw [List.append_nil]; exact ld_at [m] rest n _, rfl⟩
  | cons a1 a =>
    cases a with
    | nil =>
      simp at hab
      obtain ⟨rfl, rfl⟩ := hab
      refine ⟨endAt fs 0 (n :: rest), clamp (fget fs n) (endAt fs 0 (n :: rest ++ [m])), ?_, ?_⟩
      · have h1 := ld_at (fs := fs) [] (rest ++ [m]) n (endAt fs 0 (n :: rest ++ [m]))
        have h2 : endAt fs 0 (n :: rest ++ [m]) = clamp (fget fs m) (endAt fs 0 (n :: rest)) := by rw [end_app, end_cons]; rfl
        rw [← h2]
        exact h1
      · rw [end_app, end_cons]; rfl
    | cons a2 a =>
      simp at hab
      obtain ⟨rfl, rfl, rfl⟩ := hab
      refine ⟨endAt fs (endAt fs 0 (b ++ m :: n :: a)) b, _, ?_, rfl⟩
      generalize endAt fs 0 (b ++ m :: n :: a) = z
      have h1 := ld_at (fs := fs) (b ++ [m]) a n z
      have h2 : endAt fs z (b ++ [m]) = clamp (fget fs m) (endAt fs z b) := by rw [end_app, end_cons]; rfl
      rw [h2] at h1
      simpa using h1
theorem share_ge {fs : Fk} (wf : Wf fs) (nd : (fnames fs).Nodup) {n : Str} (hn : n ∈ fnames fs) (h0 : 0 < mostBy fs n) : ∃ o ∈ rndL (fnames fs), ∃ p ∈ ld fs (endAt fs 0 o) o, p.1 = n ∧ mostBy fs n ≤ absI (p.2.1 - p.2.2) := by
  unfold mostBy at h0 ⊢
  split at h0
  · omega
  · rename_i ho
    rw [if_neg ho]
    obtain ⟨hm, hm2⟩ := fget_mem hn
    have wfn := wf _ hm
    obtain ⟨q1, hq1, e1⟩ := low_mem ho
    obtain ⟨q2, hq2, e2⟩ := high_mem ho
    have a1 := List.mem_filter.mp hq1
    have a2 := List.mem_filter.mp hq2
    have n1 : q1.1 ≠ n := by simpa using a1.2
    have n2 : q2.1 ≠ n := by simpa using a2.2
    have w1 := wf _ a1.1
    have w2 := wf _ a2.1
    by_cases hc : lowI (others fs n) - (fget fs n).2.2 ≤ (fget fs n).2.1 - highI (others fs n)
    · obtain ⟨o, h1, x, y, h2, h3⟩ := before wf nd hn (List.mem_map.mpr ⟨q2, a2.1, rfl⟩) n2
      rw [fget_self nd a2.1] at h2 h3
      refine ⟨o, h1, _, h2, rfl, ?_⟩
      simp only
      rw [h3]
      unfold clamp absI
      split <;> omega
    · obtain ⟨o, h1, x, y, h2, h3⟩ := before wf nd hn (List.mem_map.mpr ⟨q1, a1.1, rfl⟩) n1
      rw [fget_self nd a1.1] at h2 h3
      refine ⟨o, h1, _, h2, rfl, ?_⟩
      simp only
      rw [h3]
      unfold clamp absI
      split <;> omega
theorem most_least {fs : Fk} {n : Str} (hn : n ∈ fnames fs) : 2 * mostBy fs n ≤ leastI fs ∧ 0 ≤ mostBy fs n := by
  unfold mostBy leastI
  split
  · omega
  · rename_i ho
    obtain ⟨hm, hm2⟩ := fget_mem hn
    obtain ⟨q1, hq1, e1⟩ := low_mem ho
    obtain ⟨q2, hq2, e2⟩ := high_mem ho
    have a1 := low_le (List.mem_filter.mp hq1).1
    have a2 := le_high (List.mem_filter.mp hq2).1
    have a3 := low_le hm
    have a4 := le_high hm
    omega
/-! ### onlookers -/
theorem onlk_iff {fs : Fk} (wf : Wf fs) {n : Str} (hn : n ∈ fnames fs) : mostBy fs n = 0 ↔ ∀ q ∈ fs, q.1 ≠ n → (fget fs n).2.1 ≤ q.2.2 ∧ q.2.1 ≤ (fget fs n).2.2 := by
  unfold mostBy
  constructor
  · intro h q hq hne
    have hqo : q ∈ others fs n := List.mem_filter.mpr ⟨hq, by simpa using hne⟩
    split at h
    · rename_i ho; rw [ho] at hqo; cases hqo
    · have := low_le hqo
      have := le_high hqo
      omega
  · intro h
    split
    · rfl
    · rename_i ho
      obtain ⟨q1, hq1, e1⟩ := low_mem ho
      obtain ⟨q2, hq2, e2⟩ := high_mem ho
      have a1 := List.mem_filter.mp hq1
      have a2 := List.mem_filter.mp hq2
      have b1 := h q1 a1.1 (by simpa using a1.2)
      have b2 := h q2 a2.1 (by simpa using a2.2)
      omega
def wthF (fs : Fk) : Fk := fs.filter fun p => decide (p.1 ∉ onlk fs)
theorem onlk_mem {fs : Fk} {n : Str} : n ∈ onlk fs ↔ n ∈ fnames fs ∧ mostBy fs n = 0 := by
  unfold onlk
  rw [List.mem_filter]
  simp
theorem onlk_p {fs : Fk} (wf : Wf fs) (nd : (fnames fs).Nodup) {p : Str × Int × Int} (hp : p ∈ fs) : p.1 ∈ onlk fs ↔ ∀ q ∈ fs, q.1 ≠ p.1 → p.2.1 ≤ q.2.2 ∧ q.2.1 ≤ p.2.2 := by
  have hn : p.1 ∈ fnames fs := List.mem_map.mpr ⟨p, hp, rfl⟩
  have h := onlk_iff wf hn
  rw [fget_self nd hp] at h
  rw [onlk_mem, ← h]
  simp [hn]
theorem same_name {fs : Fk} (nd : (fnames fs).Nodup) {p q : Str × Int × Int} (hp : p ∈ fs) (hq : q ∈ fs) (h : p.1 = q.1) : p = q := by
  rw [← fget_self nd hp, ← fget_self nd hq, h]
theorem lesser_still {fs : Fk} (wf : Wf fs) (nd : (fnames fs).Nodup) (s : Int) : lesserI (wthF fs) s = lesserI fs s := by
  have nil_le : ∀ (P : Str × Int × Int → Bool), fs.filter P = [] → (wthF fs).filter P = [] := fun P h => by
    unfold wthF
    rw [List.filter_eq_nil_iff] at h ⊢
    intro x hx
    exact h x (List.mem_filter.mp hx).1
  by_cases h1 : ∃ p ∈ fs, p.1 ∈ onlk fs ∧ p.2.2 ≤ s
  · obtain ⟨p, hp, ho, hs⟩ := h1
    have hk := (onlk_p wf nd hp).mp ho
    have ha : fs.filter (fun p => decide (s < p.2.1)) = [] := by
      rw [List.filter_eq_nil_iff]
      intro q hq
      by_cases e : q.1 = p.1
      · have := same_name nd hq hp e
        subst this
        have := wf _ hp
        simp; omega
      · have := hk q hq e
        simp; omega
    unfold lesserI
    rw [ha, nil_le _ ha]
    simp only [List.length_nil]
    omega
  · by_cases h2 : ∃ p ∈ fs, p.1 ∈ onlk fs ∧ s < p.2.1
    · obtain ⟨p, hp, ho, hs⟩ := h2
      have hk := (onlk_p wf nd hp).mp ho
      have ha : fs.filter (fun p => decide (p.2.2 ≤ s)) = [] := by
        rw [List.filter_eq_nil_iff]
        intro q hq
        by_cases e : q.1 = p.1
        · have := same_name nd hq hp e
          subst this
          have := wf _ hp
          simp; omega
        · have := hk q hq e
          simp; omega
      unfold lesserI
      rw [ha, nil_le _ ha]
      simp only [List.length_nil]
      omega
    · unfold lesserI wthF
      rw [List.filter_filter, List.filter_filter]
      have e1 : fs.filter (fun p => decide (p.2.2 ≤ s) && decide (p.1 ∉ onlk fs)) = fs.filter fun p => decide (p.2.2 ≤ s) := List.filter_congr fun p hp => by
        by_cases hs : p.2.2 ≤ s
        · have : p.1 ∉ onlk fs := fun ho => h1 ⟨p, hp, ho, hs⟩
          simp [hs, this]
        · simp [hs]
      have e2 : fs.filter (fun p => decide (s < p.2.1) && decide (p.1 ∉ onlk fs)) = fs.filter fun p => decide (s < p.2.1) := List.filter_congr fun p hp => by
        by_cases hs : s < p.2.1
        · have : p.1 ∉ onlk fs := fun ho => h2 ⟨p, hp, ho, hs⟩
          simp [hs, this]
        · simp [hs]
      rw [e1, e2]
theorem most_still {fs : Fk} (wf : Wf fs) (nd : (fnames fs).Nodup) : mostI (wthF fs) = mostI fs := by
  unfold mostI mostL
  congr 1
  exact List.map_congr_left fun i _ => by rw [lesser_still wf nd]
theorem most_nil : mostI [] = 0 := by decide
theorem still_sub {fs : Fk} {p : Str × Int × Int} (h : p ∈ wthF fs) : p ∈ fs ∧ p.1 ∉ onlk fs := by
  have := List.mem_filter.mp h
  exact ⟨this.1, by simpa using this.2⟩
theorem still_mem {fs : Fk} (wf : Wf fs) (nd : (fnames fs).Nodup) {p q : Str × Int × Int} (hp : p ∈ fs) (hq : q ∈ fs) (hne : q.1 ≠ p.1) (h : q.2.2 < p.2.1 ∨ p.2.2 < q.2.1) : p ∈ wthF fs ∧ q ∈ wthF fs := by
  refine ⟨List.mem_filter.mpr ⟨hp, decide_eq_true fun ho => ?_⟩, List.mem_filter.mpr ⟨hq, decide_eq_true fun ho => ?_⟩⟩
  · have := (onlk_p wf nd hp).mp ho q hq hne
    omega
  · have := (onlk_p wf nd hq).mp ho p hp hne.symm
    omega
theorem still_nd {fs : Fk} (nd : (fnames fs).Nodup) : (fnames (wthF fs)).Nodup := nd.sublist (List.Sublist.map _ List.filter_sublist)
theorem least_still {fs : Fk} (wf : Wf fs) (nd : (fnames fs).Nodup) (hne : wthF fs ≠ []) : leastI (wthF fs) = leastI fs := by
  have hfne : fs ≠ [] := fun e => hne (by rw [e]; rfl)
  obtain ⟨p1, hp1, e1⟩ := low_mem hne
  obtain ⟨p2, hp2, e2⟩ := high_mem hne
  have s1 := low_le (still_sub hp1).1
  have s2 := le_high (still_sub hp2).1
  unfold leastI
  by_cases hc : lowI fs ≤ highI fs
  · omega
  · obtain ⟨a, ha, ea⟩ := low_mem hfne
    obtain ⟨b, hb, eb⟩ := high_mem hfne
    have hab : b.1 ≠ a.1 := fun e => by
      have := same_name nd hb ha e
      subst this
      have := wf _ hb
      omega
    obtain ⟨m1, m2⟩ := still_mem wf nd ha hb hab (.inl (by omega))
    have := low_le m1
    have := le_high m2
    omega
theorem onlk_still {fs : Fk} (wf : Wf fs) (nd : (fnames fs).Nodup) : onlk (wthF fs) = [] := by
  rw [List.eq_nil_iff_forall_not_mem]
  intro n hn
  have hn1 := (onlk_mem.mp hn).1
  obtain ⟨p, hp, rfl⟩ := List.mem_map.mp hn1
  obtain ⟨h1, h2⟩ := still_sub hp
  have wf2 : Wf (wthF fs) := fun q hq => wf q (still_sub hq).1
  have hk := (onlk_p wf2 (still_nd nd) hp).mp hn
  refine h2 ((onlk_p wf nd h1).mpr fun q hq hne => ?_)
  by_cases hc : p.2.1 ≤ q.2.2 ∧ q.2.1 ≤ p.2.2
  · exact hc
  · obtain ⟨_, m2⟩ := still_mem wf nd h1 hq hne (by omega)
    exact hk q m2 hne
end Pv
namespace Pv
open PySem L2 PySem.Spec PyProof.Rows
theorem nbs_ones {α : Type} : ∀ xs : List α, nbs (xs.map fun _ => PyData.int 1) = true
  | [] => rfl
  | x :: xs => by rw [List.map_cons, nbs, nbs_ones xs]; rfl
theorem eq_nil {xs : List D} (h : nbs xs = true) : eqV (.list xs) (.list []) = some (.sh (.bool (decide (xs = [])))) := by
  by_cases e : xs = []
  · subst e; rw [eq_true rfl (by decide)]; simp
  · rw [eq_of (by rw [nb]; exact h) rfl (Nat.le_trans (Nat.min_le_right _ _) (by decide)) (by simpa using e)]
    simp [e]
theorem ne_nil {xs : List D} (h : nbs xs = true) : neV (.list xs) (.list []) = some (.sh (.bool (decide (xs ≠ [])))) := by
  by_cases e : xs = []
  · subst e; rw [ne_false rfl (by decide)]; simp
  · rw [ne_of (by rw [nb]; exact h) rfl (Nat.le_trans (Nat.min_le_right _ _) (by decide)) (by simpa using e)]
    simp [e]
/-- does the degree suit all, if they are content with more -/
def suitB (fs : Fk) (more d : Int) : Bool := fs.all fun p => decide (p.2.1 - more ≤ d ∧ d ≤ p.2.2 + more)
section
variable {tb : Nat → Option Df} {k : Nat}
theorem suitB_s (h63 : tb 63 = some d63) (fs : Fk) {v : D} (hv : v = eF fs ∨ v = .list (fs.map e1)) (more d : Int) (τ : Tp) : callK tb (k + 1) 63 [.sh v, .sh (.int more), .sh (.int d)] τ = some (.sh (.bool (suitB fs more d)), τ) := by
  rw [call_s h63 rfl]
  have hc : ∀ τ, compL (gT [3, 4, 5]) (tnot (tstD (dChn leV leV (shD (dBin subV (dVar 4) (dVar 1))) (dVar 2) (shD (dBin addV (dVar 5) (dVar 1)))))) (dK (.int 1)) (fs.map e1) [some (.sh v), some (.sh (.int more)), some (.sh (.int d)), none, none, none] τ = some ((fs.filter fun p => !decide (p.2.1 - more ≤ d ∧ d ≤ p.2.2 + more)).map fun _ => .int 1, τ) := fun τ => by
    rw [compL_pure (fun x => match x with
      | .tuple [_, .int a, .int b] => !decide (a - more ≤ d ∧ d ≤ b + more)
      | _ => false) (fun _ => .int 1) (fun x hx => ?_) τ, List.filter_map, List.map_map]
    · rfl
    · obtain ⟨p, _, rfl⟩ := List.mem_map.mp hx
      refine ⟨_, rfl, fun τ => ⟨?_, fun _ => rfl⟩⟩
      by_cases c1 : p.2.1 - more ≤ d
      · simp [e1, c1]
      · simp [e1, c1]
  have he := eq_nil (nbs_ones (fs.filter fun p => !decide (p.2.1 - more ≤ d ∧ d ≤ p.2.2 + more)))
  have hb : decide (((fs.filter fun p => !decide (p.2.1 - more ≤ d ∧ d ≤ p.2.2 + more)).map fun _ => PyData.int 1) = []) = suitB fs more d := by
    rw [Bool.eq_iff_iff, decide_eq_true_iff, List.map_eq_nil_iff, List.filter_eq_nil_iff]
    unfold suitB
    rw [List.all_eq_true]
    simp
  rw [hb] at he
  generalize (fs.filter fun p => !decide (p.2.1 - more ≤ d ∧ d ≤ p.2.2 + more)).map (fun _ => PyData.int 1) = ones at hc he
  rcases hv with rfl | rfl
  · unfold eF at hc ⊢
    try simp at hc
    simp [startE_s, hc, he]
  · try simp at hc
    simp [startE_s, hc, he]
theorem suits_s (h47 : tb 47 = some d47) (h48 : tb 48 = some d48) (h58 : tb 58 = some d58) {fs : Fk} (hne : fs ≠ []) (τ : Tp) : callK tb (k + 2) 58 [.sh (eF fs)] τ = some (.sh (if lowI fs ≤ highI fs then .tuple [.int (lowI fs), .int (highI fs)] else .none), τ) := by
  rw [call_s h58 rfl]
  have h1 := gl_s (k := k) h47 hne (.inl rfl) τ
  have h2 := lh_s (k := k) h48 hne (.inl rfl) τ
  by_cases h : lowI fs ≤ highI fs
  · simp [startE_s, h1, h2, h]
  · simp [startE_s, h1, h2, h]
def widI (fs : Fk) : Int := max 0 ((lowI fs - highI fs + 1) / 2)
theorem wid_s (h47 : tb 47 = some d47) (h48 : tb 48 = some d48) (h60 : tb 60 = some d60) {fs : Fk} (hne : fs ≠ []) (τ : Tp) : callK tb (k + 2) 60 [.sh (eF fs)] τ = some (.sh (.int (widI fs)), τ) := by
  rw [call_s h60 rfl]
  have h1 := gl_s (k := k) h47 hne (.inl rfl) τ
  have h2 := lh_s (k := k) h48 hne (.inl rfl) τ
  have h3 := fdiv_ii (i := lowI fs - highI fs + 1) (j := 2) (by omega) (by omega)
  simp [startE_s, h1, h2, h3, widI]
end
theorem suitB_iff {fs : Fk} (hne : fs ≠ []) (more d : Int) : suitB fs more d = true ↔ lowI fs - more ≤ d ∧ d ≤ highI fs + more := by
  unfold suitB
  rw [List.all_eq_true]
  constructor
  · intro h
    obtain ⟨p, hp, e⟩ := low_mem hne
    obtain ⟨q, hq, e2⟩ := high_mem hne
    have := of_decide_eq_true (h p hp)
    have := of_decide_eq_true (h q hq)
    omega
  · intro h p hp
    have := low_le hp
    have := le_high hp
    exact decide_eq_true (by omega)
/-! ### a search: the first row for which it holds -/
theorem forL_find {α : Type} {b : DG} {body : DS} (enc : α → D) (K : α → Bool) (val : α → Vl) (I : Ev → Prop) : ∀ (rows : List α) (env : Ev) (τ : Tp), (∀ r ∈ rows, ∀ env τ, I env → ∃ env1, b (enc r) env = some env1 ∧ ((K r = true ∧ body env1 τ = some (.rt (val r), τ)) ∨ (K r = false ∧ ∃ env2, body env1 τ = some (.nx env2, τ) ∧ I env2))) → I env →
    (∃ r, rows.find? K = some r ∧ forL b body (rows.map enc) env τ = some (.rt (val r), τ)) ∨ (rows.find? K = none ∧ ∃ env', forL b body (rows.map enc) env τ = some (.nx env', τ) ∧ I env')
  | [], env, τ, _, h => .inr ⟨rfl, env, rfl, h⟩
  | r :: rows, env, τ, step, h => by
    obtain ⟨env1, h1, h2⟩ := step r List.mem_cons_self env τ h
    rw [List.map_cons, forL_cons h1]
    rcases h2 with ⟨hk, h2⟩ | ⟨hk, env2, h3, h4⟩
    · refine .inl ⟨r, List.find?_cons_of_pos hk, ?_⟩
      rw [h2]
      rfl
    · rw [List.find?_cons_of_neg (by simp [hk]), h3]
      exact forL_find enc K val I rows env2 τ (fun q hq => step q (List.mem_cons_of_mem _ hq)) h4
end Pv
namespace Pv
open PySem L2 PySem.Spec PyProof.Rows
theorem comp2L_map {b : DG} {it1 : DI} {vs1 : List Nat} {b1 : DG} {e : DD} {env : Ev} {m : Nat} (f : D → List D) : ∀ {ds : List D}, (∀ x ∈ ds, ∃ env1 ds1, b x env = some env1 ∧ ds1.length ≤ m ∧ (∀ τ, it1 env1 τ = some (ds1, τ)) ∧ ∀ τ, compL b1 yes e ds1 (wipeE env1 vs1) τ = some (f x, τ)) → m * ds.length ≤ 1000000 → ∀ τ, comp2L b yes it1 vs1 b1 yes e ds env τ = some (ds.flatMap f, τ)
  | [], _, _, τ => rfl
  | x :: ds, h, hm, τ => by
    obtain ⟨env1, ds1, h1, h2, h3, h4⟩ := h x List.mem_cons_self
    have ih := comp2L_map f (ds := ds) (fun y hy => h y (List.mem_cons_of_mem _ hy)) (Nat.le_trans (Nat.mul_le_mul_left m (by simp)) hm) τ
    have hsz : ds1.length * (ds.length + 1) ≤ 1000000 := Nat.le_trans (Nat.mul_le_mul_right _ h2) hm
    show (match b x env with
    | none => none
    | some env1 => bnd (yes env1 τ) fun k τ1 => if k = true then bnd (it1 env1 τ1) fun ds1 τ2 => bnd (compL b1 yes e ds1 (wipeE env1 vs1) τ2) fun ys τ3 => bnd (comp2L b yes it1 vs1 b1 yes e ds env τ3) fun zs τ4 => if ds1.length * (ds.length + 1) ≤ 1000000 then some (ys ++ zs, τ4) else none
      else comp2L b yes it1 vs1 b1 yes e ds env τ1) = _
    rw [h1]
    simp only [yes_s, bnd_s, if_true, h3, h4, ih, hsz]
    rfl
def lisS (r : List Str) : D := .list (r.map .str)
/-- each row, and one more visit -/
def extL (ns : List Str) (rows : List (List Str)) : List (List Str) := rows.flatMap fun r => ns.map fun n => r ++ [n]
def Kn (fs : Fk) (r : List Str) : Bool := decide (endAt fs 0 r = endAt fs 40 r)
def knD : Option (List Str) → D
  | some r => lisS r
  | none => .none
theorem ext_mem {ns r : List Str} {rows : List (List Str)} (h : r ∈ extL ns rows) : ∃ q ∈ rows, ∃ n ∈ ns, r = q ++ [n] := by
  obtain ⟨q, hq, h⟩ := List.mem_flatMap.mp h
  obtain ⟨n, hn, rfl⟩ := List.mem_map.mp h
  exact ⟨q, hq, n, hn, rfl⟩
theorem ext_len (ns : List Str) (rows : List (List Str)) : (extL ns rows).length = rows.length * ns.length := by
  unfold extL
  induction rows with
  | nil => simp
  | cons r rows ih => rw [List.flatMap_cons, List.length_append, ih, List.length_map, List.length_cons, Nat.add_mul, Nat.one_mul, Nat.add_comm]
section
variable {tb : Nat → Option Df} {k : Nat}
theorem known_s (h15 : tb 15 = some d15) (h16 : tb 16 = some d16) (h18 : tb 18 = some d18) (h46 : tb 46 = some d46) (h57 : tb 57 = some d57) {fs : Fk} (nd : (fnames fs).Nodup) (hl : fs.length ≤ 6) (τ : Tp) : callK tb (k + 4) 57 [.sh (eF fs)] τ = some (.sh (knD ((extL (fnames fs) [[]] ++ extL (fnames fs) (extL (fnames fs) [[]])).find? (Kn fs))), τ) := by
  rw [call_s h57 rfl]
  have hn := nof_s (k := k + 2) h46 fs τ
  have hn : callK tb (k + 3) 46 [.sh (eF fs)] τ = some (.ow ((fnames fs).map .str), τ) := hn
  have hL : (fnames fs).length ≤ 6 := by unfold fnames; rw [List.length_map]; exact hl
  have hvs : ∀ r ∈ extL (fnames fs) [[]] ++ extL (fnames fs) (extL (fnames fs) [[]]), (∀ n ∈ r, n ∈ fnames fs) ∧ r.length ≤ 2 := fun r hr => by
    have h1 : ∀ q ∈ extL (fnames fs) [[]], (∀ n ∈ q, n ∈ fnames fs) ∧ q.length ≤ 1 := fun q hq => by
      obtain ⟨z, hz, n, hn, rfl⟩ := ext_mem hq
      simp at hz
      subst hz
      exact ⟨fun m hm => by simp at hm; subst hm; exact hn, by simp⟩
    rcases List.mem_append.mp hr with h | h
    · exact ⟨(h1 r h).1, Nat.le_succ_of_le (h1 r h).2⟩
    · obtain ⟨z, hz, n, hn, rfl⟩ := ext_mem h
      refine ⟨fun m hm => ?_, by have := (h1 z hz).2; simp; omega⟩
      rcases List.mem_append.mp hm with h | h
      · exact (h1 z hz).1 m h
      · simp at h; subst h; exact hn
  have g1 : ∀ τ, compL (gN 3) yes (shD (dLst (dCons (dVar 3) (dNil)))) ((fnames fs).map .str) [some (.sh (eF fs)), some (.sh (.list ((fnames fs).map .str))), none, none, none, none, none, none] τ = some ((extL (fnames fs) [[]]).map lisS, τ) := fun τ => by
    rw [compL_map (fun x => .list [x]) (fun x hx => ?_) τ, List.map_map]
    · unfold extL lisS
      simp
    · exact ⟨_, rfl, fun τ => rfl⟩
  have g2 : ∀ τ, comp2L (gN 4) yes (dIt (dVar 1)) [5] (gN 5) yes (shD (dLst (dCons (dVar 4) (dCons (dVar 5) (dNil))))) ((fnames fs).map .str) [some (.sh (eF fs)), some (.sh (.list ((fnames fs).map .str))), none, none, none, none, none, none] τ = some ((extL (fnames fs) (extL (fnames fs) [[]])).map lisS, τ) := fun τ => by
    rw [comp2L_map (m := 6) (fun x => (fnames fs).map fun n => .list [x, .str n]) (fun x hx => ?_) (by rw [List.length_map]; omega) τ]
    · unfold extL lisS
      simp [List.flatMap_map, List.map_flatMap]
      rfl
    · refine ⟨_, (fnames fs).map .str, rfl, by rw [List.length_map]; exact hL, fun τ => rfl, fun τ => ?_⟩
      rw [compL_map (fun y => .list [x, y]) (fun y hy => ?_) τ, List.map_map]
      · rfl
      · exact ⟨_, rfl, fun τ => rfl⟩
  have hel := ext_len (fnames fs) [[]]
  have hel2 := ext_len (fnames fs) (extL (fnames fs) [[]])
  have b1 : (extL (fnames fs) [[]]).length ≤ 6 := by rw [hel]; simpa using hL
  have b2 : (extL (fnames fs) (extL (fnames fs) [[]])).length ≤ 36 := by rw [hel2]; exact Nat.mul_le_mul b1 hL
  have hadd := add_ll (xs := (extL (fnames fs) [[]]).map lisS) (ys := (extL (fnames fs) (extL (fnames fs) [[]])).map lisS) (by simp; omega)
  rw [← List.map_append] at hadd
  generalize hrows : extL (fnames fs) [[]] ++ extL (fnames fs) (extL (fnames fs) [[]]) = rows at hvs hadd ⊢
  have hfind := forL_find (b := gN 2) (body := sSeq (sUnp (gT [6, 7]) (shD (dDef (callK tb (k + 3) 18) (vCons (dVar 0) (vCons (dVar 2) (vNil)))))) (sIf (tst (dBin eqV (dVar 6) (dVar 7))) (sRet (vD (dVar 2))) (sNil))) lisS (Kn fs) (fun r => .sh (lisS r)) (fun env => ∃ x2 x3 x4 x5 x6 x7, env = [some (.sh (eF fs)), some (.sh (.list ((fnames fs).map .str))), x2, x3, x4, x5, x6, x7]) rows [some (.sh (eF fs)), some (.sh (.list ((fnames fs).map .str))), none, none, none, none, none, none] τ (fun r hr env τ hI => by
    obtain ⟨x2, x3, x4, x5, x6, x7, rfl⟩ := hI
    obtain ⟨v1, v2⟩ := hvs r hr
    have ht := two_s (k := k) h15 h16 h18 nd v1 (by omega) (.inl rfl) τ
    refine ⟨_, rfl, ?_⟩
    by_cases hk : endAt fs 0 r = endAt fs 40 r
    · refine .inl ⟨decide_eq_true hk, ?_⟩
      simp [lisS, ht, hk]
    · refine .inr ⟨decide_eq_false hk, [some (.sh (eF fs)), some (.sh (.list ((fnames fs).map .str))), some (.sh (lisS r)), x3, x4, x5, some (.sh (.int (endAt fs 0 r))), some (.sh (.int (endAt fs 40 r)))], ?_, _, _, _, _, _, _, rfl⟩
      · simp [lisS, ht, hk]) ⟨_, _, _, _, _, _, rfl⟩
  have b3 : (extL (fnames fs) (extL (fnames fs) [[]])).length ≤ 1000000 := by omega
  try simp at g1 g2 hadd
  rcases hfind with ⟨r, f1, f2⟩ | ⟨f1, env', f2, _, _, _, _, _, _, rfl⟩
  · rw [f1]
    try simp at f2
    simp [startE_s, hn, g1, g2, dComp2, hadd, f2, knD, b3]
  · rw [f1]
    try simp at f2
    simp [startE_s, hn, g1, g2, dComp2, hadd, f2, knD, b3]
end
end Pv
namespace Pv
open PySem L2 PySem.Spec PyProof.Rows
abbrev lkB1 : DS := sAsg 4 (dBin addV (dVar 4) (shD (dComp [6] (dIt (dVar 1)) (gN 6) (yes) (shD (dBin addV (dVar 5) (shD (dLst (dCons (dVar 6) (dNil)))))))))
abbrev lkB2 (C : Nat → Cal) : DS := sIf (tst (dBin eqV (shD (dBin ixV (shD (dDef (C 21) (vCons (dVar 0) (vCons (dK (.int 0)) (vCons (dVar 5) (vNil)))))) (dNeg (dK (.int 1))))) (shD (dBin ixV (shD (dDef (C 21) (vCons (dVar 0) (vCons (dK (.int 40)) (vCons (dVar 5) (vNil)))))) (dNeg (dK (.int 1))))))) (sRet (vD (dVar 5))) (sNil)
abbrev lkB (C : Nat → Cal) : DS := sSeq (sAsg 4 (dLst (dNil))) (sSeq (sFor (dIt (dVar 2)) (gN 5) (lkB1)) (sSeq (sAsg 2 (vD (dVar 4))) (sFor (dIt (dVar 2)) (gN 5) (lkB2 C))))
section
variable {tb : Nat → Option Df} {k : Nat}
theorem ext_loop (F : Option Vl) (ns : List Str) (hn : ns.length ≤ 6) {x2 x3 : Option Vl} : ∀ (rows acc : List (List Str)) (x5 x6 : Option Vl) (τ : Tp), (∀ r ∈ rows, r.length ≤ 100) → acc.length + rows.length * 6 ≤ 100000 → ∃ y5 y6, forL (gN 5) lkB1 (rows.map lisS) [F, some (.sh (.list (ns.map .str))), x2, x3, some (.sh (.list (acc.map lisS))), x5, x6] τ
    = some (.nx [F, some (.sh (.list (ns.map .str))), x2, x3, some (.sh (.list ((acc ++ extL ns rows).map lisS))), y5, y6], τ)
  | [], acc, x5, x6, τ, _, _ => ⟨x5, x6, by simp [extL]⟩
  | r :: rows, acc, x5, x6, τ, hr, hl => by
    have hml : (ns.map fun n => r ++ [n]).length = ns.length := List.length_map _
    simp only [List.length_cons] at hl
    obtain ⟨y5, y6, h⟩ := ext_loop F ns hn (x2 := x2) (x3 := x3) rows (acc ++ ns.map fun n => r ++ [n]) (some (.sh (lisS r))) x6 τ (fun q hq => hr q (List.mem_cons_of_mem _ hq)) (by rw [List.length_append, hml]; omega)
    refine ⟨y5, y6, ?_⟩
    have hrl := hr r List.mem_cons_self
    have hc : ∀ τ, compL (gN 6) yes (shD (dBin addV (dVar 5) (shD (dLst (dCons (dVar 6) (dNil)))))) (ns.map .str) [F, some (.sh (.list (ns.map .str))), x2, x3, some (.sh (.list (acc.map lisS))), some (.sh (lisS r)), none] τ = some ((ns.map fun n => r ++ [n]).map lisS, τ) := fun τ => by
      rw [compL_map (fun x => .list (r.map .str ++ [x])) (fun x hx => ?_) τ, List.map_map, List.map_map]
      · exact congrArg (fun z => some (z, τ)) (List.map_congr_left fun n _ => by simp [lisS])
      · have ha := add_ll (xs := r.map .str) (ys := [x]) (by simp; omega)
        exact ⟨_, rfl, fun τ => by simp [lisS, ha]⟩
    have hadd := add_ll (xs := acc.map lisS) (ys := (ns.map fun n => r ++ [n]).map lisS) (by rw [List.length_map, List.length_map, hml]; omega)
    rw [← List.map_append] at hadd
    have he : lkB1 [F, some (.sh (.list (ns.map .str))), x2, x3, some (.sh (.list (acc.map lisS))), some (.sh (lisS r)), x6] τ = some (.nx [F, some (.sh (.list (ns.map .str))), x2, x3, some (.sh (.list ((acc ++ ns.map fun n => r ++ [n]).map lisS))), some (.sh (lisS r)), x6], τ) := by
      generalize (ns.map fun n => r ++ [n]).map lisS = new at hc hadd
      generalize (acc ++ ns.map fun n => r ++ [n]).map lisS = res at hadd ⊢
      generalize acc.map lisS = old at hc hadd ⊢
      simp [hc, hadd]
    rw [List.map_cons, forL_cons rfl]
    show bnd (lkB1 [F, some (.sh (.list (ns.map .str))), x2, x3, some (.sh (.list (acc.map lisS))), some (.sh (lisS r)), x6] τ) _ = _
    rw [he, bnd_s]
    have : extL ns (r :: rows) = (ns.map fun n => r ++ [n]) ++ extL ns rows := rfl
    rw [this, ← List.append_assoc]
    exact h
theorem lk_step (h21 : tb 21 = some d21) {fs : Fk} (nd : (fnames fs).Nodup) (wf : Wf fs) (hl : fs.length ≤ 6) (rows : List (List Str)) (hr : ∀ r ∈ rows, r.length ≤ 100 ∧ ∀ n ∈ r, n ∈ fnames fs) (hrl : rows.length ≤ 1000) (x3 x4 x5 x6 : Option Vl) (τ : Tp) :
    (∃ r, (extL (fnames fs) rows).find? (Kn fs) = some r ∧ lkB (callK tb (k + 1)) [some (.sh (eF fs)), some (.sh (.list ((fnames fs).map .str))), some (.sh (.list (rows.map lisS))), x3, x4, x5, x6] τ = some (.rt (.sh (lisS r)), τ)) ∨
    ((extL (fnames fs) rows).find? (Kn fs) = none ∧ ∃ y4 y5 y6, lkB (callK tb (k + 1)) [some (.sh (eF fs)), some (.sh (.list ((fnames fs).map .str))), some (.sh (.list (rows.map lisS))), x3, x4, x5, x6] τ = some (.nx [some (.sh (eF fs)), some (.sh (.list ((fnames fs).map .str))), some (.sh (.list ((extL (fnames fs) rows).map lisS))), x3, y4, y5, y6], τ)) := by
  have hL : (fnames fs).length ≤ 6 := by unfold fnames; rw [List.length_map]; exact hl
  obtain ⟨y5, y6, h1⟩ := ext_loop (some (.sh (eF fs))) (fnames fs) hL (x2 := some (.sh (.list (rows.map lisS)))) (x3 := x3) rows [] x5 x6 τ (fun r h => (hr r h).1) (by simp; omega)
  have hvs : ∀ r ∈ extL (fnames fs) rows, r.length ≤ 101 ∧ (∀ n ∈ r, n ∈ fnames fs) ∧ r ≠ [] := fun r h => by
    obtain ⟨z, hz, n, hn, rfl⟩ := ext_mem h
    have := hr z hz
    refine ⟨by simp; omega, fun m hm => ?_, by simp⟩
    rcases List.mem_append.mp hm with h | h
    · exact this.2 m h
    · simp at h; subst h; exact hn
  rw [List.nil_append] at h1
  generalize extL (fnames fs) rows = new at h1 hvs ⊢
  have hfind := forL_find (b := gN 5) (body := lkB2 (callK tb (k + 1))) lisS (Kn fs) (fun r => .sh (lisS r)) (fun env => ∃ y5, env = [some (.sh (eF fs)), some (.sh (.list ((fnames fs).map .str))), some (.sh (.list (new.map lisS))), x3, some (.sh (.list (new.map lisS))), y5, y6]) new [some (.sh (eF fs)), some (.sh (.list ((fnames fs).map .str))), some (.sh (.list (new.map lisS))), x3, some (.sh (.list (new.map lisS))), y5, y6] τ (fun r hr env τ hI => by
    obtain ⟨y5, rfl⟩ := hI
    obtain ⟨v0, v1, v2⟩ := hvs r hr
    have s1 := rows_s (k := k) h21 nd wf v1 (by omega) (.inl rfl) 0 τ
    have s2 := rows_s (k := k) h21 nd wf v1 (by omega) (.inl rfl) 40 τ
    have ne : ∀ d, sett fs d r ≠ [] := fun d e => v2 (by have := sett_len fs d r; rw [e] at this; exact List.length_eq_zero_iff.mp this.symm)
    have l1 : ixV (.list ((sett fs 0 r).map .int)) (.int (-1)) = some (.sh (.int (endAt fs 0 r))) := last_ints (ne 0) 0
    have l2 : ixV (.list ((sett fs 40 r).map .int)) (.int (-1)) = some (.sh (.int (endAt fs 40 r))) := last_ints (ne 40) 40
    refine ⟨_, rfl, ?_⟩
    by_cases hk : endAt fs 0 r = endAt fs 40 r
    · refine .inl ⟨decide_eq_true hk, ?_⟩
      simp [lisS, s1, s2, l1, l2, hk]
    · refine .inr ⟨decide_eq_false hk, [some (.sh (eF fs)), some (.sh (.list ((fnames fs).map .str))), some (.sh (.list (new.map lisS))), x3, some (.sh (.list (new.map lisS))), some (.sh (lisS r)), y6], ?_, _, rfl⟩
      simp [lisS, s1, s2, l1, l2, hk]) ⟨_, rfl⟩
  rcases hfind with ⟨r, f1, f2⟩ | ⟨f1, env', f2, z5, rfl⟩
  · refine .inl ⟨r, f1, ?_⟩
    try simp at h1 f2
    simp [h1, f2]
  · refine .inr ⟨f1, some (.sh (.list (new.map lisS))), z5, y6, ?_⟩
    try simp at h1 f2
    simp [h1, f2]
theorem lknown_s (h19 : tb 19 = some d19) (h21 : tb 21 = some d21) (h61 : tb 61 = some d61) {fs : Fk} (nd : (fnames fs).Nodup) (wf : Wf fs) (hl : fs.length ≤ 6) (τ : Tp) :
    callK tb (k + 2) 61 [.sh (eF fs)] τ = some (.sh (knD (((extL (fnames fs) [[]]).find? (Kn fs)).or (((extL (fnames fs) (extL (fnames fs) [[]])).find? (Kn fs)).or ((extL (fnames fs) (extL (fnames fs) (extL (fnames fs) [[]]))).find? (Kn fs))))), τ) := by
  rw [call_s h61 rfl]
  have hn := fnames_s (k := k) h19 fs τ
  have hL : (fnames fs).length ≤ 6 := by unfold fnames; rw [List.length_map]; exact hl
  have grow : ∀ (rows : List (List Str)) (m : Nat), (∀ r ∈ rows, r.length ≤ m ∧ ∀ n ∈ r, n ∈ fnames fs) → ∀ r ∈ extL (fnames fs) rows, r.length ≤ m + 1 ∧ ∀ n ∈ r, n ∈ fnames fs := fun rows m h r hr => by
    obtain ⟨z, hz, n, hn, rfl⟩ := ext_mem hr
    have := h z hz
    refine ⟨by simp; omega, fun q hq => ?_⟩
    rcases List.mem_append.mp hq with h | h
    · exact this.2 q h
    · simp at h; subst h; exact hn
  have r0 : ∀ r ∈ ([[]] : List (List Str)), r.length ≤ 0 ∧ ∀ n ∈ r, n ∈ fnames fs := fun r hr => by simp at hr; subst hr; exact ⟨Nat.le_refl _, fun n hn => by cases hn⟩
  have r1 := grow _ _ r0
  have r2 := grow _ _ r1
  have l1 : (extL (fnames fs) [[]]).length ≤ 6 := by rw [ext_len]; simpa using hL
  have l2 : (extL (fnames fs) (extL (fnames fs) [[]])).length ≤ 36 := by rw [ext_len]; exact Nat.mul_le_mul l1 hL
  have step := fun rows hr hrl x3 x4 x5 x6 τ => lk_step (k := k) h21 nd wf hl rows hr hrl x3 x4 x5 x6 τ
  have hr3 : rngL 0 3 = [.int 0, .int 1, .int 2] := rfl
  have e0 : ([[]] : List (List Str)).map lisS = [.list []] := rfl
  have fin : forL (gN 3) (lkB (callK tb (k + 1))) [.int 0, .int 1, .int 2] [some (.sh (eF fs)), some (.sh (.list ((fnames fs).map .str))), some (.sh (.list [.list []])), none, none, none, none] τ = some (.rt (.sh (knD (((extL (fnames fs) [[]]).find? (Kn fs)).or (((extL (fnames fs) (extL (fnames fs) [[]])).find? (Kn fs)).or ((extL (fnames fs) (extL (fnames fs) (extL (fnames fs) [[]]))).find? (Kn fs)))))), τ) ∨
      ((((extL (fnames fs) [[]]).find? (Kn fs)).or (((extL (fnames fs) (extL (fnames fs) [[]])).find? (Kn fs)).or ((extL (fnames fs) (extL (fnames fs) (extL (fnames fs) [[]]))).find? (Kn fs)))) = none ∧ ∃ env', forL (gN 3) (lkB (callK tb (k + 1))) [.int 0, .int 1, .int 2] [some (.sh (eF fs)), some (.sh (.list ((fnames fs).map .str))), some (.sh (.list [.list []])), none, none, none, none] τ = some (.nx env', τ)) := by
    rw [← e0]
    rw [forL_cons (env1 := [some (.sh (eF fs)), some (.sh (.list ((fnames fs).map .str))), some (.sh (.list (([[]] : List (List Str)).map lisS))), some (.sh (.int 0)), none, none, none]) rfl]
    rcases step [[]] (fun r hr => ⟨Nat.le_trans (r0 r hr).1 (by omega), (r0 r hr).2⟩) (by simp) (some (.sh (.int 0))) none none none τ with ⟨r, f1, f2⟩ | ⟨f1, y4, y5, y6, f2⟩
    · rw [f1, f2]
      exact .inl rfl
    · rw [f1, f2, bnd_s, Option.none_or]
      dsimp only
      rw [forL_cons (env1 := [some (.sh (eF fs)), some (.sh (.list ((fnames fs).map .str))), some (.sh (.list ((extL (fnames fs) [[]]).map lisS))), some (.sh (.int 1)), y4, y5, y6]) rfl]
      rcases step (extL (fnames fs) [[]]) (fun r hr => ⟨Nat.le_trans (r1 r hr).1 (by omega), (r1 r hr).2⟩) (by omega) (some (.sh (.int 1))) y4 y5 y6 τ with ⟨r, g1, g2⟩ | ⟨g1, z4, z5, z6, g2⟩
      · rw [g1, g2]
        exact .inl rfl
      · rw [g1, g2, bnd_s, Option.none_or]
        dsimp only
        rw [forL_cons (env1 := [some (.sh (eF fs)), some (.sh (.list ((fnames fs).map .str))), some (.sh (.list ((extL (fnames fs) (extL (fnames fs) [[]])).map lisS))), some (.sh (.int 2)), z4, z5, z6]) rfl]
        rcases step (extL (fnames fs) (extL (fnames fs) [[]])) (fun r hr => ⟨Nat.le_trans (r2 r hr).1 (by omega), (r2 r hr).2⟩) (by omega) (some (.sh (.int 2))) z4 z5 z6 τ with ⟨r, i1, i2⟩ | ⟨i1, w4, w5, w6, i2⟩
        · rw [i1, i2]
          exact .inl rfl
        · rw [i1, i2, bnd_s]
          exact .inr ⟨rfl, _, rfl⟩
  rcases fin with fin | ⟨hnone, env', fin⟩
  · simp [startE_s, hn, hr3, fin]
  · rw [hnone]
    simp [startE_s, hn, hr3, fin, knD]
end
end Pv
namespace Pv
open PySem L2 PySem.Spec PyProof.Rows
theorem kn_no {fs : Fk} (bd : Bd fs) (hne : fs ≠ []) (h : lowI fs < highI fs) {r : List Str} (hv : ∀ n ∈ r, n ∈ fnames fs) : Kn fs r = false := by
  have hb1 := lowI_bd bd hne
  have hb2 := highI_bd bd hne
  have e1 : lowS fs r ≤ lowI fs := by
    unfold lowS
    have := maxI_mem (ns := 0 :: r.map fun n => (fget fs n).2.1) (by simp)
    rcases List.mem_cons.mp this with e | e
    · rw [e]; omega
    · obtain ⟨n, hn, e⟩ := List.mem_map.mp e
      rw [← e]
      exact low_le (fget_mem (hv n hn)).1
  have e2 : highI fs ≤ highS fs r := by
    unfold highS
    have := minI_mem (ns := 40 :: r.map fun n => (fget fs n).2.2) (by simp)
    rcases List.mem_cons.mp this with e | e
    · rw [e]; omega
    · obtain ⟨n, hn, e⟩ := List.mem_map.mp e
      rw [← e]
      exact le_high (fget_mem (hv n hn)).1
  unfold Kn
  refine decide_eq_false fun e => ?_
  rcases meet bd.wf hv with ⟨_, m2, m3⟩ | ⟨m1, _⟩
  · omega
  · omega
theorem kn_yes {fs : Fk} (bd : Bd fs) (nd : (fnames fs).Nodup) (hne : fs ≠ []) (h : highI fs ≤ lowI fs) : ∃ r ∈ extL (fnames fs) (extL (fnames fs) [[]]), Kn fs r = true := by
  obtain ⟨p, hp, e1⟩ := low_mem hne
  obtain ⟨q, hq, e2⟩ := high_mem hne
  have hpn : p.1 ∈ fnames fs := List.mem_map.mpr ⟨p, hp, rfl⟩
  have hqn : q.1 ∈ fnames fs := List.mem_map.mpr ⟨q, hq, rfl⟩
  refine ⟨[q.1, p.1], ?_, ?_⟩
  · unfold extL
    rw [List.mem_flatMap]
    refine ⟨[q.1], ?_, List.mem_map.mpr ⟨p.1, hpn, rfl⟩⟩
    rw [List.mem_flatMap]
    exact ⟨[], by simp, List.mem_map.mpr ⟨q.1, hqn, rfl⟩⟩
  · unfold Kn
    apply decide_eq_true
    have g : ∀ d, endAt fs d [q.1, p.1] = clamp p (clamp q d) := fun d => by
      rw [end_cons, end_cons, fget_self nd hp, fget_self nd hq]
      rfl
    rw [g, g]
    have b1 := bd p hp
    have b2 := bd q hq
    unfold clamp
    omega
theorem ext_in {fs : Fk} {rows : List (List Str)} (h : ∀ r ∈ rows, ∀ n ∈ r, n ∈ fnames fs) : ∀ r ∈ extL (fnames fs) rows, ∀ n ∈ r, n ∈ fnames fs := fun r hr => by
  obtain ⟨z, hz, n, hn, rfl⟩ := ext_mem hr
  intro m hm
  rcases List.mem_append.mp hm with h1 | h1
  · exact h z hz m h1
  · simp at h1; subst h1; exact hn
theorem known_same {fs : Fk} (bd : Bd fs) (nd : (fnames fs).Nodup) (hne : fs ≠ []) :
    ((extL (fnames fs) [[]] ++ extL (fnames fs) (extL (fnames fs) [[]])).find? (Kn fs)) = (((extL (fnames fs) [[]]).find? (Kn fs)).or (((extL (fnames fs) (extL (fnames fs) [[]])).find? (Kn fs)).or ((extL (fnames fs) (extL (fnames fs) (extL (fnames fs) [[]]))).find? (Kn fs)))) ∧
    (((extL (fnames fs) [[]] ++ extL (fnames fs) (extL (fnames fs) [[]])).find? (Kn fs)) = none ↔ lowI fs < highI fs) := by
  have v0 : ∀ r ∈ ([[]] : List (List Str)), ∀ n ∈ r, n ∈ fnames fs := fun r hr n hn => by simp at hr; subst hr; cases hn
  have v1 := ext_in v0
  have v2 := ext_in v1
  have v3 := ext_in v2
  rw [List.find?_append]
  by_cases h : lowI fs < highI fs
  · have no : ∀ rows : List (List Str), (∀ r ∈ rows, ∀ n ∈ r, n ∈ fnames fs) → rows.find? (Kn fs) = none := fun rows hr => by
      rw [List.find?_eq_none]
      intro r hm
      rw [kn_no bd hne h (hr r hm)]
      decide
    rw [no _ v1, no _ v2, no _ v3]
    exact ⟨rfl, fun _ => h, fun _ => rfl⟩
  · obtain ⟨r, hr, hk⟩ := kn_yes bd nd hne (by omega)
    cases hf : (extL (fnames fs) (extL (fnames fs) [[]])).find? (Kn fs) with
    | none =>
      rw [List.find?_eq_none] at hf
      exact absurd hk (hf r hr)
    | some z =>
      refine ⟨by rw [Option.some_or], fun e => ?_, fun e => absurd e h⟩
      cases hg : (extL (fnames fs) [[]]).find? (Kn fs) with
      | none => rw [hg] at e; cases e
      | some w => rw [hg] at e; cases e
end Pv
namespace Pv
open PySem L2 PySem.Spec PyProof.Rows
section
variable {α : Type} [DecidableEq α] [W.DatumOrd α]
theorem ord_anti {a b : α} (h1 : W.dataLt (W.Datum.toD a) (W.Datum.toD b) = false) (h2 : W.dataLt (W.Datum.toD b) (W.Datum.toD a) = false) : a = b := by
  have e : W.keyToks (W.Datum.toD a) = W.keyToks (W.Datum.toD b) := (listOrd itemOrd).total _ _ h1 h2
  have h := (W.toks_eqv (W.Datum.toD a) (W.Datum.toD b) (W.DatumOrd.alike a b)).2
  rw [W.Datum.eqv] at h
  by_cases hab : a = b
  · exact hab
  · have q1 := h (decide_eq_false hab) [] [.inl 0]
    have q2 := h (decide_eq_false hab) [.inl 0] []
    rw [e, List.append_nil, lex_irrefl] at q1
    rw [e, List.append_nil, lex_irrefl] at q2
    have := lex_total _ _ q1 q2
    have := congrArg List.length this
    simp at this
/-- sorted by its datum: each is at most what comes behind -/
theorem sorted_pw {β : Type} (enc : β → D) (xs : List β) : (xs.mergeSort (W.dataLe false enc)).Pairwise fun a b => W.dataLt (enc b) (enc a) = false := by
  refine (W.sort_pairwise (le := W.dataLe false enc) (W.sortLe_total _ _ _) xs).imp fun {a b} h => ?_
  have h : (!W.dataLt (enc b) (enc a)) = true := h
  simpa using h
theorem lt_trans' {a b c : D} (h1 : W.dataLt b a = false) (h2 : W.dataLt c b = false) : W.dataLt c a = false := KeyOrd.kle_trans (O := listOrd itemOrd) (a := W.keyToks a) (b := W.keyToks b) (c := W.keyToks c) h1 h2
end
/-! ### the least by datum -/
theorem minD_spec (x : D) : ∀ xs : List D, (∀ y ∈ x :: xs, W.dataLt y (W.minD x xs) = false) ∧ W.minD x xs ∈ x :: xs := fun xs => by
  unfold W.minD
  induction xs generalizing x with
  | nil => exact ⟨fun y hy => by simp at hy; subst hy; exact lex_irrefl _, by simp⟩
  | cons z zs ih =>
    rw [List.foldl_cons]
    cases h : W.dataLt z x with
    | true =>
      simp only [if_true]
      obtain ⟨h1, h2⟩ := ih z
      refine ⟨fun y hy => ?_, ?_⟩
      · rcases List.mem_cons.mp hy with rfl | hy
        · have hz := h1 z List.mem_cons_self
          have hyz : W.dataLt y z = false := by
            cases q : W.dataLt y z with
            | false => rfl
            | true => have := lex_trans _ _ _ h q; rw [show PyProof.Rows.lexLt itemOrd (W.keyToks z) (W.keyToks z) = false from lex_irrefl _] at this; cases this
          exact lt_trans' hz hyz
        · exact h1 y hy
      · rcases List.mem_cons.mp h2 with h2 | h2
        · rw [h2]; simp
        · simp [h2]
    | false =>
      simp only [Bool.false_eq_true, if_false]
      obtain ⟨h1, h2⟩ := ih x
      refine ⟨fun y hy => ?_, ?_⟩
      · rcases List.mem_cons.mp hy with rfl | hy
        · exact h1 y List.mem_cons_self
        · rcases List.mem_cons.mp hy with rfl | hy
          · exact lt_trans' (h1 x List.mem_cons_self) h
          · exact h1 y (List.mem_cons_of_mem _ hy)
      · rcases List.mem_cons.mp h2 with h2 | h2
        · rw [h2]; simp
        · simp [h2]
end Pv
namespace Pv
open PySem L2 PySem.Spec PyProof.Rows
def lotF (found : List (List Str)) (ns : List Str) : List (List Str) := match ns with
  | [] => found
  | n :: ns => lotF (found ++ found.map (· ++ [n])) ns
theorem mem_lotF : ∀ (ns : List Str) (acc : List (List Str)) (r : List Str), r ∈ lotF acc ns ↔ ∃ a ∈ acc, ∃ s, s.Sublist ns ∧ r = a ++ s
  | [], acc, r => by
    unfold lotF
    constructor
    · exact fun h => ⟨r, h, [], .slnil, by simp⟩
    · rintro ⟨a, ha, s, hs, rfl⟩
      have := List.sublist_nil.mp hs
      subst this
      simpa using ha
  | n :: ns, acc, r => by
    rw [lotF, mem_lotF ns]
    constructor
    · rintro ⟨a, ha, s, hs, rfl⟩
      rcases List.mem_append.mp ha with h | h
      · exact ⟨a, h, s, hs.cons n, rfl⟩
      · obtain ⟨b, hb, rfl⟩ := List.mem_map.mp h
        exact ⟨b, hb, n :: s, hs.cons_cons n, by simp⟩
    · rintro ⟨a, ha, s, hs, rfl⟩
      cases hs with
      | cons _ hs => exact ⟨a, List.mem_append_left _ ha, s, hs, rfl⟩
      | cons_cons _ hs => exact ⟨a ++ [n], List.mem_append_right _ (List.mem_map.mpr ⟨a, ha, rfl⟩), _, hs, by simp⟩
theorem lotF_len : ∀ (ns : List Str) (acc : List (List Str)), (lotF acc ns).length = acc.length * 2 ^ ns.length
  | [], acc => by simp [lotF]
  | n :: ns, acc => by
    rw [lotF, lotF_len ns, List.length_append, List.length_map, List.length_cons, Nat.pow_succ, Nat.mul_comm (2 ^ ns.length) 2, ← Nat.mul_assoc]
    congr 1; omega
def lotE (l : List Str) : D := .tuple [.int (l.length : Int), tupS l]
theorem lotE_toD (l : List Str) : lotE l = W.Datum.toD (((l.length : Int), (⟨l⟩ : W.Tup Str))) := rfl
theorem lotE_anti {a b : List Str} (h1 : W.dataLt (lotE a) (lotE b) = false) (h2 : W.dataLt (lotE b) (lotE a) = false) : a = b := by
  rw [lotE_toD, lotE_toD] at h1 h2
  have := ord_anti h1 h2
  exact congrArg W.Tup.items (Prod.mk.inj this).2
theorem lotE_lt {a b : List Str} (h : a.length < b.length) : W.dataLt (lotE b) (lotE a) = false := by
  rw [lotE_toD, lotE_toD, W.DatumOrd.lt_eq]
  show (if ((b.length : Int)) = (a.length : Int) then _ else decide ((b.length : Int) < (a.length : Int))) = false
  rw [if_neg (by omega)]
  exact decide_eq_false (by omega)
theorem lotE_depth (l : List Str) : (lotE l).depth ≤ 60 := by
  rw [lotE_toD]
  exact Nat.le_trans (W.Datum.depth_le _) (by decide)
theorem lotE_alike (a b : List Str) : W.alike (lotE a) (lotE b) = true := by
  rw [lotE_toD, lotE_toD]
  exact W.DatumOrd.alike _ _
theorem srtC_lots (xs : List (List Str)) : srtC [.list (xs.map lotE)] = some (.ow ((xs.mergeSort (W.dataLe false lotE)).map lotE)) := by
  have : srtOk (xs.map lotE) = true := srtOk_of (fun a _ b _ => lotE_alike a b) (.inl fun a _ => ⟨_, _, rfl⟩) (fun a _ => lotE_depth a)
  show (if srtOk (xs.map lotE) = true then _ else _) = _
  rw [if_pos this, srtD_map]
section
variable {tb : Nat → Option Df} {k : Nat}
theorem lots_s (h62 : tb 62 = some d62) {ns : List Str} (hl : ns.length ≤ 6) (τ : Tp) : callK tb (k + 1) 62 [.sh (.list (ns.map .str))] τ = some (.ow (((lotF [[]] ns).mergeSort (W.dataLe false lotE)).map tupS), τ) := by
  rw [call_s h62 rfl]
  have loop : ∀ (ms : List Str) (acc : List (List Str)) (x2 : Option Vl) (τ : Tp), acc.length * 2 ^ ms.length ≤ 64 → (∀ r ∈ acc, r.length + ms.length ≤ 6) → ∃ y2, forL (gN 2) (sAsg 1 (dBin addV (dVar 1) (shD (dComp [3] (dIt (dVar 1)) (gN 3) (yes) (shD (dBin addV (dVar 3) (dTup (dCons (dVar 2) (dNil)))))))))
      (ms.map .str) [some (.sh (.list (ns.map .str))), some (.sh (.list (acc.map tupS))), x2, none, none] τ = some (.nx [some (.sh (.list (ns.map .str))), some (.sh (.list ((lotF acc ms).map tupS))), y2, none, none], τ) := fun ms => by
    induction ms with
    | nil => exact fun acc x2 τ _ _ => ⟨x2, rfl⟩
    | cons m ms ih =>
      intro acc x2 τ ha hr
      rw [List.length_cons, Nat.pow_succ] at ha
      have hpos : 0 < 2 ^ ms.length := Nat.pow_pos (by decide)
      have hal : acc.length ≤ 64 := Nat.le_trans (Nat.le_mul_of_pos_right _ (by omega)) ha
      obtain ⟨y2, h⟩ := ih (acc ++ acc.map (· ++ [m])) (some (.sh (.str m))) τ (by
        rw [List.length_append, List.length_map, Nat.add_mul]
        have : acc.length * (2 ^ ms.length * 2) = acc.length * 2 ^ ms.length + acc.length * 2 ^ ms.length := by rw [← Nat.mul_assoc]; omega
        omega) (fun r hr' => by
        rcases List.mem_append.mp hr' with h | h
        · have := hr r h; simp at this; omega
        · obtain ⟨q, hq, rfl⟩ := List.mem_map.mp h
          have := hr q hq
          simp at this ⊢; omega)
      refine ⟨y2, ?_⟩
      have hc : ∀ τ, compL (gN 3) yes (shD (dBin addV (dVar 3) (dTup (dCons (dVar 2) (dNil))))) (acc.map tupS) [some (.sh (.list (ns.map .str))), some (.sh (.list (acc.map tupS))), some (.sh (.str m)), none, none] τ = some ((acc.map (· ++ [m])).map tupS, τ) := fun τ => by
        rw [compL_map (fun x => match x with
          | .tuple r => .tuple (r ++ [.str m])
          | _ => .none) (fun x hx => ?_) τ, List.map_map, List.map_map]
        · exact congrArg (fun z => some (z, τ)) (List.map_congr_left fun r _ => by simp [tupS])
        · obtain ⟨r, hr', rfl⟩ := List.mem_map.mp hx
          have := hr r hr'
          have hadd := add_tt (xs := r.map .str) (ys := [.str m]) (by simp; omega)
          exact ⟨_, rfl, fun τ => by simp [tupS, hadd]⟩
      have hadd := add_ll (xs := acc.map tupS) (ys := (acc.map (· ++ [m])).map tupS) (by simp; omega)
      rw [← List.map_append] at hadd
      rw [List.map_cons, forL_cons rfl, lotF]
      generalize (acc.map (· ++ [m])).map tupS = new at hc hadd
      generalize hres : (acc ++ acc.map (· ++ [m])).map tupS = res at hadd h
      generalize acc.map tupS = old at hc hadd ⊢
      try simp at hc
      simp [hc, hadd]
      exact h
  obtain ⟨y2, hlp⟩ := loop ns [[]] none τ (by
    have : 2 ^ ns.length ≤ 2 ^ 6 := Nat.pow_le_pow_right (by decide) hl
    simpa using this) (fun r hr => by simp at hr; subst hr; simpa using hl)
  generalize hlots : lotF [[]] ns = lots at hlp ⊢
  have c1 : ∀ τ, compL (gN 3) yes (dTup (dCons (shD (dCl lenV (dCons (dVar 3) (dNil)))) (dCons (dVar 3) (dNil)))) (lots.map tupS) [some (.sh (.list (ns.map .str))), some (.sh (.list (lots.map tupS))), y2, none, none] τ = some (lots.map lotE, τ) := fun τ => by
    rw [compL_map (fun x => match x with
      | .tuple r => .tuple [.int (r.length : Int), .tuple r]
      | _ => .none) (fun x hx => ?_) τ, List.map_map]
    · exact congrArg (fun z => some (z, τ)) (List.map_congr_left fun r _ => by simp [tupS, lotE])
    · obtain ⟨r, hr', rfl⟩ := List.mem_map.mp hx
      exact ⟨_, rfl, fun τ => by simp [tupS]⟩
  have hs := srtC_lots lots
  have c2 : ∀ τ, compL (gT [4, 3]) yes (dVar 3) ((lots.mergeSort (W.dataLe false lotE)).map lotE) [some (.sh (.list (ns.map .str))), some (.sh (.list (lots.map tupS))), y2, none, none] τ = some ((lots.mergeSort (W.dataLe false lotE)).map tupS, τ) := fun τ => by
    rw [compL_map (fun x => match x with
      | .tuple [_, r] => r
      | _ => .none) (fun x hx => ?_) τ, List.map_map]
    · rfl
    · obtain ⟨r, hr', rfl⟩ := List.mem_map.mp hx
      exact ⟨_, rfl, fun τ => rfl⟩
  generalize (lots.mergeSort (W.dataLe false lotE)).map lotE = sl at c2 hs
  generalize (lots.mergeSort (W.dataLe false lotE)).map tupS = res at c2 ⊢
  generalize lots.map lotE = ll at c1 hs
  generalize lots.map tupS = lt at c1 c2 hlp
  have e0 : ([[]] : List (List Str)).map tupS = [.tuple []] := rfl
  rw [e0] at hlp
  try simp at hlp c1 c2 hs
  simp [startE_s, hlp, c1, c2, hs]
end
end Pv
namespace Pv
open PySem L2 PySem.Spec PyProof.Rows
theorem sub_filter {l : List Str} : ∀ {s : List Str}, s.Sublist l → l.Nodup → s = l.filter fun n => decide (n ∈ s) := by
  induction l with
  | nil => intro s h _; have := List.sublist_nil.mp h; subst this; rfl
  | cons a l ih =>
    intro s h nd
    obtain ⟨na, nd⟩ := List.nodup_cons.mp nd
    cases h with
    | cons _ h =>
      have : a ∉ s := fun e => na (h.subset e)
      rw [List.filter_cons_of_neg (by simpa using this)]
      exact ih h nd
    | cons_cons _ h =>
      rename_i s
      rw [List.filter_cons_of_pos (by simp)]
      congr 1
      have e1 := ih h nd
      refine e1.trans (List.filter_congr fun x hx => ?_)
      have : x ≠ a := fun e => na (e ▸ hx)
      simp [this]
theorem filter_sub {α : Type} (p q : α → Bool) : ∀ (l : List α), (∀ x ∈ l, p x = true → q x = true) → (l.filter p).Sublist (l.filter q)
  | [], _ => .slnil
  | x :: l, h => by
    have ih := filter_sub p q l fun y hy => h y (List.mem_cons_of_mem _ hy)
    cases hp : p x with
    | true =>
      rw [List.filter_cons_of_pos hp, List.filter_cons_of_pos (h x List.mem_cons_self hp)]
      exact ih.cons_cons x
    | false =>
      rw [List.filter_cons_of_neg (by simp [hp])]
      cases hq : q x with
      | true => rw [List.filter_cons_of_pos hq]; exact ih.cons x
      | false => rw [List.filter_cons_of_neg (by simp [hq])]; exact ih
/-- whom the degree doesn't suit -/
def outL (fs : Fk) (d : Int) : List Str := (fs.filter fun p => !decide (p.2.1 ≤ d ∧ d ≤ p.2.2)).map (·.1)
theorem outL_sub (fs : Fk) (d : Int) : (outL fs d).Sublist (fnames fs) := List.Sublist.map _ List.filter_sublist
def restL (fs : Fk) (lot : List Str) : Fk := fs.filter fun p => decide (p.1 ∉ lot)
def okL (fs : Fk) (lot : List Str) : Bool := decide (((List.range 41).filter fun (i : Nat) => suitB (restL fs lot) 0 (i : Int)) ≠ [])
theorem suit_rest {fs : Fk} {lot : List Str} {d : Int} : suitB (restL fs lot) 0 d = true ↔ ∀ n ∈ outL fs d, n ∈ lot := by
  unfold suitB
  rw [List.all_eq_true]
  constructor
  · intro h n hn
    obtain ⟨p, hp, rfl⟩ := List.mem_map.mp hn
    obtain ⟨h1, h2⟩ := List.mem_filter.mp hp
    by_cases hc : p.1 ∈ lot
    · exact hc
    · have := of_decide_eq_true (h p (List.mem_filter.mpr ⟨h1, decide_eq_true hc⟩))
      simp at h2
      omega
  · intro h p hp
    obtain ⟨h1, h2⟩ := List.mem_filter.mp hp
    have h2 := of_decide_eq_true h2
    refine decide_eq_true ?_
    by_cases hc : p.2.1 ≤ d ∧ d ≤ p.2.2
    · omega
    · exact absurd (h p.1 (List.mem_map.mpr ⟨p, List.mem_filter.mpr ⟨h1, by simp only [hc]; rfl⟩, rfl⟩)) h2
theorem okL_iff {fs : Fk} {lot : List Str} : okL fs lot = true ↔ ∃ i : Nat, i < 41 ∧ ∀ n ∈ outL fs (i : Int), n ∈ lot := by
  unfold okL
  rw [decide_eq_true_iff]
  constructor
  · intro h
    obtain ⟨i, hi⟩ := List.exists_mem_of_ne_nil _ h
    obtain ⟨h1, h2⟩ := List.mem_filter.mp hi
    exact ⟨i, List.mem_range.mp h1, suit_rest.mp h2⟩
  · rintro ⟨i, hi, h⟩ e
    have : i ∈ (List.range 41).filter fun (i : Nat) => suitB (restL fs lot) 0 (i : Int) := List.mem_filter.mpr ⟨List.mem_range.mpr hi, suit_rest.mpr h⟩
    rw [e] at this
    cases this
/-- the first lot, sorted, is the least of those whom some degree doesn't suit -/
theorem home_same {fs : Fk} (nd : (fnames fs).Nodup) {L : List Str} (hL : ∃ i : Nat, i < 41 ∧ L = outL fs (i : Int)) (hmin : ∀ i : Nat, i < 41 → W.dataLt (lotE (outL fs (i : Int))) (lotE L) = false) : ((lotF [[]] (fnames fs)).mergeSort (W.dataLe false lotE)).find? (okL fs) = some L := by
  obtain ⟨i, hi, rfl⟩ := hL
  have hLS : outL fs (i : Int) ∈ (lotF [[]] (fnames fs)).mergeSort (W.dataLe false lotE) := by
    rw [List.mem_mergeSort, mem_lotF]
    exact ⟨[], by simp, _, outL_sub fs _, rfl⟩
  have hLP : okL fs (outL fs (i : Int)) = true := okL_iff.mpr ⟨i, hi, fun n hn => hn⟩
  cases hf : ((lotF [[]] (fnames fs)).mergeSort (W.dataLe false lotE)).find? (okL fs) with
  | none =>
    rw [List.find?_eq_none] at hf
    exact absurd hLP (hf _ hLS)
  | some M =>
    have hMP := List.find?_some hf
    obtain ⟨_, as, bs, hS, has⟩ := List.find?_eq_some_iff_append.mp hf
    have hMS : M ∈ (lotF [[]] (fnames fs)).mergeSort (W.dataLe false lotE) := by rw [hS]; simp
    rw [List.mem_mergeSort, mem_lotF] at hMS
    obtain ⟨a, ha, s, hs, e⟩ := hMS
    simp at ha
    subst ha
    have hsub : M.Sublist (fnames fs) := by rw [e]; exact hs
    -- M is not less than the least
    obtain ⟨j, hj, hjM⟩ := okL_iff.mp hMP
    have hout : (outL fs (j : Int)).Sublist M := by
      rw [sub_filter hsub nd, sub_filter (outL_sub fs (j : Int)) nd]
      exact filter_sub _ _ _ fun x _ hx => decide_eq_true (hjM x (of_decide_eq_true hx))
    have h1 : W.dataLt (lotE M) (lotE (outL fs (j : Int))) = false := by
      rcases Nat.lt_or_ge (outL fs (j : Int)).length M.length with h | h
      · exact lotE_lt h
      · have := hout.eq_of_length (Nat.le_antisymm hout.length_le h)
        rw [this]
        exact lex_irrefl _
    have h2 := lt_trans' (hmin j hj) h1
    have h3 : W.dataLt (lotE (outL fs (i : Int))) (lotE M) = false := by
      have pw := sorted_pw lotE (lotF [[]] (fnames fs))
      rw [hS] at pw hLS
      rcases List.mem_append.mp hLS with h | h
      · have := has _ h
        rw [hLP] at this
        cases this
      · rcases List.mem_cons.mp h with h | h
        · rw [h]; exact lex_irrefl _
        · have := (List.pairwise_append.mp pw).2.1
          exact (List.pairwise_cons.mp this).1 _ h
    rw [lotE_anti h2 h3]
end Pv
namespace Pv
open PySem L2 PySem.Spec PyProof.Rows
theorem ni_strsT {n : Str} {ns : List Str} : niV (.str n) (.tuple (ns.map .str)) = some (.sh (.bool (decide (n ∉ ns)))) := by
  have h : inB (.str n) (.tuple (ns.map .str)) = some ((ns.map PyData.str).any fun z => PyData.eqv z (.str n)) := by
    show (if min (PyData.depthAll (ns.map PyData.str)) (PyData.str n).depth ≤ 60 then _ else none) = _
    rw [if_pos (Nat.le_trans (Nat.min_le_right _ _) (by simp [PyData.depth]))]
  unfold niV
  rw [h, Option.map_some]
  congr 3
  by_cases hn : n ∈ ns
  · have : ((ns.map PyData.str).any fun z => PyData.eqv z (.str n)) = true := by
      rw [List.any_eq_true]
      exact ⟨.str n, List.mem_map.mpr ⟨n, hn, rfl⟩, by simp [PyData.eqv]⟩
    rw [this]; simp [hn]
  · have : ((ns.map PyData.str).any fun z => PyData.eqv z (.str n)) = false := by
      rw [List.any_eq_false]
      intro x hx
      obtain ⟨m, hm, rfl⟩ := List.mem_map.mp hx
      simp only [PyData.eqv]
      intro e
      exact hn (by rw [← eq_of_beq e]; exact hm)
    rw [this]; simp [hn]
theorem nbs_nats : ∀ xs : List Nat, nbs (xs.map fun (i : Nat) => PyData.int (i : Int)) = true
  | [] => rfl
  | x :: xs => by rw [List.map_cons, nbs, nbs_nats xs]; rfl
theorem rng41 : rngL 0 41 = (List.range 41).map fun (i : Nat) => .int (i : Int) := by
  unfold rngL
  simp
theorem alk_lots (xs : List (List Str)) : alk (xs.map lotE) = true := by
  unfold alk
  rw [List.all_eq_true]
  intro x hx
  obtain ⟨a, _, rfl⟩ := List.mem_map.mp hx
  rw [Bool.and_eq_true, List.all_eq_true]
  refine ⟨rfl, fun y hy => ?_⟩
  obtain ⟨b, _, rfl⟩ := List.mem_map.mp hy
  exact lotE_alike a b
section
variable {tb : Nat → Option Df} {k : Nat}
/-- the degrees that suit all of some -/
theorem degs_s (h63 : tb 63 = some d63) (gs : Fk) (more : Int) {v : D} (hv : v = eF gs ∨ v = .list (gs.map e1)) {iv id : Nat} {env : Ev} (he : ∀ d, (env.set id (some (.sh (.int d))))[iv]? = some (some (.sh v)) ∧ (env.set id (some (.sh (.int d))))[id]? = some (some (.sh (.int d)))) {mf : DD} (hm : ∀ d τ, mf (env.set id (some (.sh (.int d)))) τ = some (.int more, τ)) (τ : Tp) :
    compL (gN id) (tst (dDef (callK tb (k + 1) 63) (vCons (dVar iv) (vCons mf (vCons (dVar id) (vNil)))))) (dVar id) ((List.range 41).map fun (i : Nat) => .int (i : Int)) env τ = some (((List.range 41).filter fun (i : Nat) => suitB gs more (i : Int)).map fun (i : Nat) => .int (i : Int), τ) := by
  rw [compL_pure (fun x => match x with
    | .int d => suitB gs more d
    | _ => false) _root_.id (fun x hx => ?_) τ, List.filter_map, List.map_id]
  · rfl
  · obtain ⟨i, _, rfl⟩ := List.mem_map.mp hx
    obtain ⟨h1, h2⟩ := he (i : Int)
    have h3 := fun τ => suitB_s (k := k) h63 gs hv more (i : Int) τ
    refine ⟨_, rfl, fun τ => ⟨?_, fun _ => ?_⟩⟩
    · have h4 := hm (i : Int) τ
      simp only [tst_s, dDef_s, vCons_s, vNil_s, dVar_s, h1, h2, h4, bnd_s, h3]
    · simp only [dVar_s, h2]; rfl
theorem home_s (h19 : tb 19 = some d19) (h62 : tb 62 = some d62) (h63 : tb 63 = some d63) (h64 : tb 64 = some d64) {fs : Fk} (hl : fs.length ≤ 6) {L : List Str} (hf : ((lotF [[]] (fnames fs)).mergeSort (W.dataLe false lotE)).find? (okL fs) = some L) (τ : Tp) : callK tb (k + 2) 64 [.sh (eF fs)] τ = some (.sh (tupS L), τ) := by
  rw [call_s h64 rfl]
  have hn := fnames_s (k := k) h19 fs τ
  have hL : (fnames fs).length ≤ 6 := by unfold fnames; rw [List.length_map]; exact hl
  have hlots := lots_s (k := k) h62 hL τ
  generalize (lotF [[]] (fnames fs)).mergeSort (W.dataLe false lotE) = S at hf hlots
  have hfind := forL_find (b := gN 1) (body := sSeq (sAsg 2 (dComp [3] (dIt (dVar 0)) (gN 3) (tst (dBin niV (shD (dBin ixV (dVar 3) (dK (.int 0)))) (dVar 1))) (dVar 3))) (sIf (tst (dBin neV (shD (dComp [4] (dRng1 (dCons (dK (.int 41)) (dNil))) (gN 4) (tst (dDef (callK tb (k + 1) 63) (vCons (dVar 2) (vCons (dK (.int 0)) (vCons (dVar 4) (vNil)))))) (dVar 4))) (shD (dLst (dNil))))) (sRet (vD (dVar 1))) (sNil))) tupS (okL fs) (fun r => .sh (tupS r)) (fun env => ∃ x1 x2 x3 x4, env = [some (.sh (eF fs)), x1, x2, x3, x4]) S [some (.sh (eF fs)), none, none, none, none] τ (fun lot hlot env τ hI => by
    obtain ⟨x1, x2, x3, x4, rfl⟩ := hI
    have c1 : ∀ τ, compL (gN 3) (tst (dBin niV (shD (dBin ixV (dVar 3) (dK (.int 0)))) (dVar 1))) (dVar 3) (fs.map e1) [some (.sh (eF fs)), some (.sh (tupS lot)), x2, none, x4] τ = some ((restL fs lot).map e1, τ) := fun τ => by
      rw [compL_pure (fun x => match x with
        | .tuple [.str a, _, _] => decide (a ∉ lot)
        | _ => false) id (fun x hx => ?_) τ, List.filter_map, List.map_id]
      · rfl
      · obtain ⟨p, hp, rfl⟩ := List.mem_map.mp hx
        have hi := ni_strsT (n := p.1) (ns := lot)
        exact ⟨_, rfl, fun τ => ⟨by simp [e1, ix0, tupS, hi], fun _ => rfl⟩⟩
    have c2 := degs_s (k := k) h63 (restL fs lot) 0 (.inr rfl) (iv := 2) (id := 4) (env := [some (.sh (eF fs)), some (.sh (tupS lot)), some (.sh (.list ((restL fs lot).map e1))), x3, none]) (fun d => ⟨rfl, rfl⟩) (mf := dK (.int 0)) (fun d τ => rfl) τ
    have c3 := ne_nil (nbs_nats ((List.range 41).filter fun (i : Nat) => suitB (restL fs lot) 0 (i : Int)))
    have c4 : decide ((((List.range 41).filter fun (i : Nat) => suitB (restL fs lot) 0 (i : Int)).map fun (i : Nat) => PyData.int (i : Int)) ≠ []) = okL fs lot := by
      unfold okL
      rw [Bool.eq_iff_iff, decide_eq_true_iff, decide_eq_true_iff, Ne, List.map_eq_nil_iff]
    rw [c4] at c3
    have hr := rng41
    generalize ((List.range 41).filter fun (i : Nat) => suitB (restL fs lot) 0 (i : Int)).map (fun (i : Nat) => PyData.int (i : Int)) = ds at c2 c3
    generalize ((List.range 41).map fun (i : Nat) => PyData.int (i : Int)) = r41 at c2 hr
    generalize (restL fs lot).map e1 = rs at c1 c2
    refine ⟨[some (.sh (eF fs)), some (.sh (tupS lot)), x2, x3, x4], rfl, ?_⟩
    have it : dIt (dVar 0) [some (.sh (eF fs)), some (.sh (tupS lot)), x2, x3, x4] τ = some (fs.map e1, τ) := rfl
    try simp at c1 c2
    cases hk : okL fs lot with
    | true =>
      rw [hk] at c3
      refine .inl ⟨rfl, ?_⟩
      simp only [sSeq_s, sAsg_s, shD_s, dComp_s, it, bnd_s, wipeE_cons, wipeE_nil, List.set_cons_succ, List.set_cons_zero, c1]
      simp [hr, c2, c3]
    | false =>
      rw [hk] at c3
      refine .inr ⟨rfl, [some (.sh (eF fs)), some (.sh (tupS lot)), some (.sh (.list rs)), x3, x4], ?_, _, _, _, _, rfl⟩
      simp only [sSeq_s, sAsg_s, shD_s, dComp_s, it, bnd_s, wipeE_cons, wipeE_nil, List.set_cons_succ, List.set_cons_zero, c1]
      simp [hr, c2, c3]) ⟨_, _, _, _, rfl⟩
  rcases hfind with ⟨r, f1, f2⟩ | ⟨f1, _⟩
  · rw [hf] at f1
    cases f1
    try simp at f2
    simp [startE_s, hn, hlots, f2]
  · rw [hf] at f1; cases f1
end
end Pv
namespace Pv
open PySem L2 PySem.Spec PyProof.Rows
def homeRows (fs : Fk) (n : Nat) : List (List Str) := (List.range n).map fun (i : Nat) => outL fs (i : Int)
theorem minL_lots {xs : List (List Str)} (hne : xs ≠ []) : ∃ L ∈ xs, (∀ y ∈ xs, W.dataLt (lotE y) (lotE L) = false) ∧ minL [.list (xs.map lotE)] = some (.sh (lotE L)) := by
  cases xs with
  | nil => exact absurd rfl hne
  | cons x xs =>
    obtain ⟨h1, h2⟩ := minD_spec (lotE x) (xs.map lotE)
    rw [← List.map_cons (f := lotE)] at h1 h2
    obtain ⟨L, hL, e⟩ := List.mem_map.mp h2
    refine ⟨L, hL, fun y hy => ?_, ?_⟩
    · rw [e]; exact h1 _ (List.mem_map.mpr ⟨y, hy, rfl⟩)
    · have ha := alk_lots (x :: xs)
      have hd : PyData.depthAll ((x :: xs).map lotE) ≤ 60 := depthAll_le fun y hy => by
        obtain ⟨z, _, rfl⟩ := List.mem_map.mp hy
        exact lotE_depth z
      rw [e]
      show (if alk ((x :: xs).map lotE) = true ∧ PyData.depthAll ((x :: xs).map lotE) ≤ 60 then _ else _) = _
      rw [if_pos ⟨ha, hd⟩]
section
variable {tb : Nat → Option Df} {k : Nat}
theorem athome_s (h59 : tb 59 = some d59) {fs : Fk} (hl : fs.length ≤ 6) : ∃ L, (∀ (k : Nat) τ, callK tb (k + 1) 59 [.sh (eF fs)] τ = some (.sh (tupS L), τ)) ∧ (∃ i : Nat, i < 41 ∧ L = outL fs (i : Int)) ∧ ∀ i : Nat, i < 41 → W.dataLt (lotE (outL fs (i : Int))) (lotE L) = false := by
  obtain ⟨L, hL, hmin, hm⟩ := minL_lots (xs := homeRows fs 41) (by simp [homeRows])
  obtain ⟨i, hi, e⟩ := List.mem_map.mp hL
  refine ⟨L, fun k τ => ?_, ⟨i, List.mem_range.mp hi, e.symm⟩, fun j hj => hmin _ (List.mem_map.mpr ⟨j, List.mem_range.mpr hj, rfl⟩)⟩
  rw [call_s h59 rfl]
  have loop : ∀ (n m : Nat) (x2 x3 x4 x5 x6 : Option Vl) (τ : Tp), m + n = 41 → ∃ y2 y3 y4 y5 y6, forL (gN 2) (sSeq (sAsg 3 (dCl tupC (dCons (shD (dComp [4, 5, 6] (dIt (dVar 0)) (gT [4, 5, 6]) (tnot (tstD (dChn leV leV (dVar 5) (dVar 2) (dVar 6)))) (dVar 4))) (dNil)))) (sMut 1 appV (dCons (dTup (dCons (shD (dCl lenV (dCons (dVar 3) (dNil)))) (dCons (dVar 3) (dNil)))) (dNil)))) ((List.range' m n).map fun (i : Nat) => .int (i : Int)) [some (.sh (eF fs)), some (.ow ((homeRows fs m).map lotE)), x2, x3, x4, x5, x6] τ
      = some (.nx [some (.sh (eF fs)), some (.ow ((homeRows fs (m + n)).map lotE)), y2, y3, y4, y5, y6], τ) := fun n => by
    induction n with
    | zero => exact fun m x2 x3 x4 x5 x6 τ _ => ⟨x2, x3, x4, x5, x6, rfl⟩
    | succ n ih =>
      intro m x2 x3 x4 x5 x6 τ hmn
      obtain ⟨y2, y3, y4, y5, y6, h⟩ := ih (m + 1) (some (.sh (.int (m : Int)))) (some (.sh (tupS (outL fs (m : Int))))) x4 x5 x6 τ (by omega)
      refine ⟨y2, y3, y4, y5, y6, ?_⟩
      rw [List.range'_succ, List.map_cons, forL_cons rfl]
      have c1 : ∀ τ, compL (gT [4, 5, 6]) (tnot (tstD (dChn leV leV (dVar 5) (dVar 2) (dVar 6)))) (dVar 4) (fs.map e1) [some (.sh (eF fs)), some (.ow ((homeRows fs m).map lotE)), some (.sh (.int (m : Int))), x3, none, none, none] τ = some ((outL fs (m : Int)).map .str, τ) := fun τ => by
        rw [compL_pure (fun x => match x with
          | .tuple [_, .int a, .int b] => !decide (a ≤ (m : Int) ∧ (m : Int) ≤ b)
          | _ => false) (fun x => match x with
          | .tuple [a, _, _] => a
          | _ => .none) (fun x hx => ?_) τ, List.filter_map, List.map_map]
        · unfold outL; rw [List.map_map]; rfl
        · obtain ⟨p, _, rfl⟩ := List.mem_map.mp hx
          refine ⟨_, rfl, fun τ => ⟨?_, fun _ => rfl⟩⟩
          by_cases q : p.2.1 ≤ (m : Int)
          · simp [e1, q]
          · simp [e1, q]
      have hrl : ((homeRows fs m).map lotE).length < 16777216 := by simp [homeRows]; omega
      have ha := app_s (y := lotE (outL fs (m : Int))) hrl
      have hrow : (homeRows fs m).map lotE ++ [lotE (outL fs (m : Int))] = (homeRows fs (m + 1)).map lotE := by
        unfold homeRows
        rw [List.range_succ, List.map_append, List.map_append]
        rfl
      rw [hrow] at ha
      have it : dIt (dVar 0) [some (.sh (eF fs)), some (.ow ((homeRows fs m).map lotE)), some (.sh (.int (m : Int))), x3, x4, x5, x6] τ = some (fs.map e1, τ) := rfl
      rw [show m + (n + 1) = m + 1 + n by omega]
      generalize (homeRows fs (m + 1)).map lotE = new at ha h
      generalize (homeRows fs m).map lotE = old at c1 ha it hrl ⊢
      have hE : (sSeq (sAsg 3 (dCl tupC (dCons (shD (dComp [4, 5, 6] (dIt (dVar 0)) (gT [4, 5, 6]) (tnot (tstD (dChn leV leV (dVar 5) (dVar 2) (dVar 6)))) (dVar 4))) (dNil)))) (sMut 1 appV (dCons (dTup (dCons (shD (dCl lenV (dCons (dVar 3) (dNil)))) (dCons (dVar 3) (dNil)))) (dNil)))) [some (.sh (eF fs)), some (.ow old), some (.sh (.int (m : Int))), x3, x4, x5, x6] τ = some (.nx [some (.sh (eF fs)), some (.ow new), some (.sh (.int (m : Int))), some (.sh (tupS (outL fs (m : Int)))), x4, x5, x6], τ) := by
        simp only [sSeq_s, sAsg_s, shD_s, dCl_s, dCons_s, dNil_s, dComp_s, it, bnd_s, wipeE_cons, wipeE_nil, List.set_cons_succ, List.set_cons_zero, c1]
        simp [lotE, tupS] at ha ⊢
        simp [ha]
      show bnd ((sSeq _ _) [some (.sh (eF fs)), some (.ow old), some (.sh (.int (m : Int))), x3, x4, x5, x6] τ) _ = _
      rw [hE, bnd_s]
      exact h
  obtain ⟨y2, y3, y4, y5, y6, hlp⟩ := loop 41 0 none none none none none τ (by omega)
  have hr : rngL 0 41 = (List.range' 0 41).map fun (i : Nat) => .int (i : Int) := by rw [rng41, List.range_eq_range']
  have h0 : (homeRows fs 0).map lotE = [] := rfl
  have hix : ixV (lotE L) (.int 1) = some (.sh (tupS L)) := ix1 _ _ _
  rw [h0] at hlp
  rw [Nat.zero_add] at hlp
  generalize (homeRows fs 41).map lotE = rows at hlp hm
  generalize (List.range' 0 41).map (fun (i : Nat) => PyData.int (i : Int)) = r41 at hlp hr
  simp [startE_s, hr]
  try simp at hlp
  simp [hlp, hm, hix]
end
end Pv
namespace Pv
open PySem L2 PySem.Spec PyProof.Rows
theorem range_cut (a b : Nat) (hb : b ≤ 40) : (List.range 41).filter (fun (i : Nat) => decide (a ≤ i ∧ i ≤ b)) = List.range' a (b + 1 - a) := by
  by_cases h : a ≤ b
  · have e : List.range 41 = List.range' 0 a ++ (List.range' a (b + 1 - a) ++ List.range' (b + 1) (40 - b)) := by
      rw [List.range_eq_range', show 41 = a + ((b + 1 - a) + (40 - b)) by omega, ← List.range'_append_1, ← List.range'_append_1]
      congr 3
      · omega
      · omega
    rw [e, List.filter_append, List.filter_append]
    have h1 : (List.range' 0 a).filter (fun (i : Nat) => decide (a ≤ i ∧ i ≤ b)) = [] := by
      rw [List.filter_eq_nil_iff]
      intro i hi
      have := List.mem_range'_1.mp hi
      simp; omega
    have h2 : (List.range' a (b + 1 - a)).filter (fun (i : Nat) => decide (a ≤ i ∧ i ≤ b)) = List.range' a (b + 1 - a) := by
      rw [List.filter_eq_self]
      intro i hi
      have := List.mem_range'_1.mp hi
      exact decide_eq_true (by omega)
    have h3 : (List.range' (b + 1) (40 - b)).filter (fun (i : Nat) => decide (a ≤ i ∧ i ≤ b)) = [] := by
      rw [List.filter_eq_nil_iff]
      intro i hi
      have := List.mem_range'_1.mp hi
      simp; omega
    rw [h1, h2, h3]
    simp
  · rw [show b + 1 - a = 0 by omega]
    show _ = []
    rw [List.filter_eq_nil_iff]
    intro i _
    simp; omega
/-- the degrees that suit all -/
def degL (fs : Fk) (more : Int) : List Nat := (List.range 41).filter fun (i : Nat) => suitB fs more (i : Int)
theorem degL_eq {fs : Fk} (bd : Bd fs) (hne : fs ≠ []) : degL fs 0 = List.range' (lowI fs).toNat ((highI fs).toNat + 1 - (lowI fs).toNat) := by
  have h1 := lowI_bd bd hne
  have h2 := highI_bd bd hne
  rw [← range_cut _ _ (by omega)]
  unfold degL
  refine List.filter_congr fun i _ => ?_
  rw [Bool.eq_iff_iff, suitB_iff hne, decide_eq_true_iff]
  omega
theorem degL_nil {fs : Fk} (bd : Bd fs) (hne : fs ≠ []) {more : Int} (hm : 0 ≤ more) : degL fs more = [] ↔ more < widI fs := by
  have h1 := lowI_bd bd hne
  have h2 := highI_bd bd hne
  unfold degL
  rw [List.filter_eq_nil_iff]
  constructor
  · intro h
    unfold widI
    have := h (max 0 (lowI fs - more)).toNat (List.mem_range.mpr (by omega))
    rw [suitB_iff hne] at this
    omega
  · intro h i _
    unfold widI at h
    rw [suitB_iff hne]
    omega
theorem ix_neg1 (xs : List D) (x : D) : ixV (.list (xs ++ [x])) (.int (-1)) = some (.sh x) := ixm1 xs x
theorem deg_ends {fs : Fk} (bd : Bd fs) (hne : fs ≠ []) (h : lowI fs ≤ highI fs) : ixV (.list ((degL fs 0).map fun (i : Nat) => .int (i : Int))) (.int 0) = some (.sh (.int (lowI fs))) ∧ ixV (.list ((degL fs 0).map fun (i : Nat) => .int (i : Int))) (.int (-1)) = some (.sh (.int (highI fs))) := by
  have h1 := lowI_bd bd hne
  have h2 := highI_bd bd hne
  rw [degL_eq bd hne]
  constructor
  · rw [show (highI fs).toNat + 1 - (lowI fs).toNat = ((highI fs).toNat - (lowI fs).toNat) + 1 by omega, List.range'_succ, List.map_cons, ix0l, Int.toNat_of_nonneg h1.1]
  · rw [show (highI fs).toNat + 1 - (lowI fs).toNat = ((highI fs).toNat - (lowI fs).toNat) + 1 by omega, List.range'_1_concat, List.map_append]
    rw [List.map_cons, List.map_nil, ixm1]
    congr 3
    omega
theorem deg_len {fs : Fk} (bd : Bd fs) (hne : fs ≠ []) : (1 < (degL fs 0).length ↔ lowI fs < highI fs) ∧ (degL fs 0 ≠ [] ↔ lowI fs ≤ highI fs) := by
  have h1 := lowI_bd bd hne
  have h2 := highI_bd bd hne
  rw [degL_eq bd hne]
  constructor
  · rw [List.length_range']; omega
  · rw [Ne, ← List.length_eq_zero_iff, List.length_range']; omega
/-- nobody must stay at home just where the least is nought -/
theorem home_nil {fs : Fk} (bd : Bd fs) (hne : fs ≠ []) {L : List Str} (hL : ∃ i : Nat, i < 41 ∧ L = outL fs (i : Int)) (hmin : ∀ i : Nat, i < 41 → W.dataLt (lotE (outL fs (i : Int))) (lotE L) = false) : L = [] ↔ leastI fs = 0 := by
  have h1 := lowI_bd bd hne
  have h2 := highI_bd bd hne
  have hz : leastI fs = 0 ↔ lowI fs ≤ highI fs := by unfold leastI; omega
  have hs : ∀ i : Int, outL fs i = [] ↔ lowI fs ≤ i ∧ i ≤ highI fs := fun i => by
    have q := suitB_iff hne 0 i
    rw [show lowI fs - 0 = lowI fs by omega, show highI fs + 0 = highI fs by omega] at q
    rw [← q]
    unfold outL suitB
    rw [List.map_eq_nil_iff, List.filter_eq_nil_iff, List.all_eq_true]
    simp
  rw [hz]
  constructor
  · intro e
    obtain ⟨i, _, hi⟩ := hL
    rw [e] at hi
    have := (hs i).mp hi.symm
    omega
  · intro h
    have := hmin (lowI fs).toNat (by omega)
    rw [(hs _).mpr (by omega)] at this
    cases L with
    | nil => rfl
    | cons x xs => exact (lotE_anti (a := []) (b := x :: xs) this (lotE_lt (by simp))).symm
end Pv
namespace Pv
def mvS (s : Bool) : Option Bool → Bool
  | some t => t
  | none => s
def finS (s : Bool) (ts : List (Option Bool)) : Bool := ts.foldl mvS s
def chgS : Bool → List (Option Bool) → Nat
  | _, [] => 0
  | s, t :: ts => (if mvS s t = s then 0 else 1) + chgS (mvS s t) ts
/-- changes to b -/
def chB (b : Bool) : Bool → List (Option Bool) → Nat
  | _, [] => 0
  | s, t :: ts => (if s ≠ b ∧ mvS s t = b then 1 else 0) + chB b (mvS s t) ts
/-- on a later day -/
def cycS (ts : List (Option Bool)) : Nat := chgS (finS false ts) ts
def cntS (b : Bool) (ts : List (Option Bool)) : Nat := ts.countP fun t => t == some b
/-- whoever sets b finds the other -/
def allS (b : Bool) : Bool → List (Option Bool) → Prop
  | _, [] => True
  | s, t :: ts => (t = some b → s ≠ b) ∧ allS b (mvS s t) ts
theorem finS_nil {s : Bool} : finS s [] = s := rfl
theorem finS_cons {s : Bool} {t : Option Bool} {ts : List (Option Bool)} : finS s (t :: ts) = finS (mvS s t) ts := rfl
theorem finS_app (s : Bool) (a b : List (Option Bool)) : finS s (a ++ b) = finS (finS s a) b := List.foldl_append
theorem chgS_app : ∀ (a b : List (Option Bool)) (s : Bool), chgS s (a ++ b) = chgS s a + chgS (finS s a) b
  | [], _, _ => by simp [chgS, finS]
  | t :: a, b, s => by
    rw [List.cons_append, chgS, chgS, chgS_app a b, finS_cons]; omega
theorem chB_app (c : Bool) : ∀ (a b : List (Option Bool)) (s : Bool), chB c s (a ++ b) = chB c s a + chB c (finS s a) b
  | [], _, _ => by simp [chB, finS]
  | t :: a, b, s => by
    rw [List.cons_append, chB, chB, chB_app c a b, finS_cons]; omega
theorem allS_app (c : Bool) : ∀ (a b : List (Option Bool)) (s : Bool), allS c s (a ++ b) ↔ allS c s a ∧ allS c (finS s a) b
  | [], _, _ => by simp [allS, finS]
  | t :: a, b, s => by
    rw [List.cons_append, allS, allS, allS_app c a b, finS_cons, and_assoc]
theorem finS_or : ∀ ts : List (Option Bool), (∀ t ∈ ts, t = none) ∨ ∃ c, ∀ s, finS s ts = c
  | [] => .inl (by simp)
  | some c :: ts => by
    rcases finS_or ts with h | ⟨d, h⟩
    · refine .inr ⟨c, fun s => ?_⟩
      rw [finS_cons]
      show finS c ts = c
      clear finS_or
      induction ts with
      | nil => rfl
      | cons t ts ih => rw [finS_cons, h t List.mem_cons_self]; exact ih fun t ht => h t (List.mem_cons_of_mem _ ht)
    · exact .inr ⟨d, fun s => by rw [finS_cons]; exact h _⟩
  | none :: ts => by
    rcases finS_or ts with h | ⟨d, h⟩
    · exact .inl fun t ht => by
        rcases List.mem_cons.mp ht with rfl | ht
        · rfl
        · exact h t ht
    · exact .inr ⟨d, fun s => by rw [finS_cons]; exact h _⟩
theorem finS_none {ts : List (Option Bool)} (h : ∀ t ∈ ts, t = none) (s : Bool) : finS s ts = s := by
  induction ts with
  | nil => rfl
  | cons t ts ih => rw [finS_cons, h t List.mem_cons_self]; exact ih fun t ht => h t (List.mem_cons_of_mem _ ht)
theorem chgS_none {ts : List (Option Bool)} (h : ∀ t ∈ ts, t = none) (s : Bool) : chgS s ts = 0 := by
  induction ts with
  | nil => rfl
  | cons t ts ih => rw [chgS, h t List.mem_cons_self]; simp [mvS]; exact ih fun t ht => h t (List.mem_cons_of_mem _ ht)
theorem finS_idem (s : Bool) (ts : List (Option Bool)) : finS (finS s ts) ts = finS s ts := by
  rcases finS_or ts with h | ⟨c, h⟩
  · rw [finS_none h, finS_none h]
  · rw [h, h]
theorem finS_some {ts : List (Option Bool)} {b : Bool} (h : some b ∈ ts) (s t : Bool) : finS s ts = finS t ts := by
  rcases finS_or ts with h1 | ⟨c, h1⟩
  · have := h1 _ h; cases this
  · rw [h1, h1]
theorem cyc_any (s : Bool) (ts : List (Option Bool)) : chgS (finS s ts) ts = cycS ts := by
  rcases finS_or ts with h | ⟨c, h⟩
  · rw [cycS, chgS_none h, chgS_none h]
  · rw [cycS, h, h]
theorem cyc_rot (a b : List (Option Bool)) : cycS (b ++ a) = cycS (a ++ b) := by
  have h1 : finS (finS (finS false a) (b ++ a)) b = finS false (a ++ b) := by
    rw [← finS_app, ← finS_app, ← List.append_assoc, ← List.append_assoc, List.append_assoc, finS_app _ (a ++ b) (a ++ b), finS_idem]
  have h2 : finS (finS false a) (b ++ a) = finS (finS false (a ++ b)) a := by rw [← finS_app, ← finS_app, List.append_assoc]
  rw [← cyc_any (finS false a) (b ++ a), chgS_app, h1]
  rw [cycS, chgS_app, ← h2]; omega
theorem chg_sum : ∀ (ts : List (Option Bool)) (s : Bool), chgS s ts = chB true s ts + chB false s ts
  | [], _ => rfl
  | t :: ts, s => by
    rw [chgS, chB, chB, chg_sum ts]
    rcases t with _ | t
    · cases s <;> simp [mvS]
    · cases s <;> cases t <;> simp [mvS] <;> omega
theorem chB_bal : ∀ (ts : List (Option Bool)) (s : Bool), chB true s ts + s.toNat = chB false s ts + (finS s ts).toNat
  | [], _ => rfl
  | t :: ts, s => by
    have := chB_bal ts (mvS s t)
    rw [chB, chB, finS_cons]
    rcases t with _ | t
    · cases s <;> simp [mvS] at this ⊢ <;> omega
    · cases s <;> cases t <;> simp [mvS] at this ⊢ <;> omega
theorem chB_le (b : Bool) : ∀ (ts : List (Option Bool)) (s : Bool), chB b s ts ≤ cntS b ts
  | [], _ => Nat.le_refl _
  | t :: ts, s => by
    have := chB_le b ts (mvS s t)
    unfold cntS at this ⊢
    rw [chB, List.countP_cons]
    rcases t with _ | t
    · cases s <;> cases b <;> simp [mvS] at this ⊢ <;> omega
    · cases s <;> cases t <;> cases b <;> simp [mvS] at this ⊢ <;> omega
theorem chB_all (b : Bool) : ∀ (ts : List (Option Bool)) (s : Bool), allS b s ts → chB b s ts = cntS b ts
  | [], _, _ => rfl
  | t :: ts, s, h => by
    have := chB_all b ts (mvS s t) h.2
    have h1 := h.1
    unfold cntS at this ⊢
    rw [chB, List.countP_cons]
    rcases t with _ | t
    · cases s <;> cases b <;> simp [mvS] at this h1 ⊢ <;> omega
    · cases s <;> cases t <;> cases b <;> simp [mvS] at this h1 ⊢ <;> omega
theorem cyc_two (b : Bool) (ts : List (Option Bool)) : cycS ts = 2 * chB b (finS false ts) ts := by
  have h1 := chB_bal ts (finS false ts)
  have h2 := chg_sum ts (finS false ts)
  rw [finS_idem] at h1
  unfold cycS
  cases b <;> omega
theorem cyc_two' (b s : Bool) (ts : List (Option Bool)) : cycS ts = 2 * chB b (finS s ts) ts := by
  have h1 := chB_bal ts (finS s ts)
  have h2 := chg_sum ts (finS s ts)
  rw [finS_idem] at h1
  rw [← cyc_any s ts]
  cases b <;> omega
theorem cyc_le (b : Bool) (ts : List (Option Bool)) : cycS ts ≤ 2 * cntS b ts := by
  have h1 := chB_le b ts (finS false ts)
  rw [cyc_two b]; omega
theorem cyc_even (ts : List (Option Bool)) : cycS ts % 2 = 0 := by rw [cyc_two true]; omega
theorem cyc_all {b : Bool} {ts : List (Option Bool)} {s : Bool} (h : allS b (finS s ts) ts) : cycS ts = 2 * cntS b ts := by
  rw [cyc_two' b s, chB_all b ts _ h]
theorem chB_pos {b : Bool} : ∀ (ts : List (Option Bool)) (s : Bool), some b ∈ ts → s ≠ b → 1 ≤ chB b s ts
  | t :: ts, s, h, hs => by
    rw [chB]
    rcases t with _ | t
    · have := chB_pos (b := b) ts s (by simpa using h) hs
      simp [mvS]; omega
    · by_cases e : t = b
      · subst e; rw [if_pos ⟨hs, rfl⟩]; omega
      · have := chB_pos (b := b) ts t (by
          rcases List.mem_cons.mp h with h | h
          · cases h; exact absurd rfl e
          · exact h) e
        simp [mvS]; omega
theorem cyc_ge {ts : List (Option Bool)} (h1 : some true ∈ ts) (h2 : some false ∈ ts) : 2 ≤ cycS ts := by
  cases e : finS false ts with
  | false => have := chB_pos ts false h1 (by decide); rw [cyc_two true, e]; omega
  | true => have := chB_pos ts true h2 (by decide); rw [cyc_two false, e]; omega
theorem cnt_zero {b : Bool} {ts : List (Option Bool)} : cntS b ts = 0 ↔ some b ∉ ts := by
  unfold cntS
  rw [List.countP_eq_zero]
  constructor
  · intro h z; have := h _ z; simp at this
  · intro h x hx; simp; intro e; subst e; exact h hx
theorem cnt_pos {b : Bool} {ts : List (Option Bool)} : 0 < cntS b ts ↔ some b ∈ ts := by
  rw [Nat.pos_iff_ne_zero, Ne, cnt_zero, Classical.not_not]
theorem chB_no {b : Bool} {ts : List (Option Bool)} (h : some b ∉ ts) (s : Bool) : chB b s ts = 0 := by
  have := chB_le b ts s
  have := (cnt_zero (b := b)).mpr h
  omega
theorem chB_one {b : Bool} : ∀ (ts : List (Option Bool)) (s : Bool), some (!b) ∉ ts → chB b s ts ≤ 1 ∧ (s = b → chB b s ts = 0)
  | [], _, _ => by simp [chB]
  | t :: ts, s, h => by
    have ih := chB_one (b := b) ts (mvS s t) fun z => h (List.mem_cons_of_mem _ z)
    rw [chB]
    rcases t with _ | t
    · cases s <;> cases b <;> simp [mvS] at ih ⊢ <;> first | exact ih | exact ih.1 | omega
    · have : t = b := by
        by_cases e : t = b
        · exact e
        · exfalso; apply h
          have : t = !b := by cases t <;> cases b <;> simp_all
          rw [this]; exact List.mem_cons_self
      subst this
      cases s <;> cases t <;> simp [mvS] at ih ⊢ <;> first | exact ih | omega
/-- one block of b -/
theorem cyc_block {b : Bool} {A B C : List (Option Bool)} (hA : some b ∉ A) (hB : some (!b) ∉ B) (hC : some b ∉ C) : cycS (A ++ B ++ C) ≤ 2 := by
  rw [cyc_two b, chB_app, chB_app, chB_no hA, chB_no hC]
  have := (chB_one (b := b) B (finS (finS false (A ++ B ++ C)) A) hB).1
  omega
theorem cyc_calm {ts : List (Option Bool)} (h : cycS ts ≤ 2) : cycS ts = if min (cntS true ts) (cntS false ts) = 0 then 0 else 2 := by
  have h1 := cyc_le true ts
  have h2 := cyc_le false ts
  split
  · rename_i h3
    rcases Nat.le_total (cntS true ts) (cntS false ts) with h | h <;> omega
  · rename_i h3
    have : 2 ≤ cycS ts := cyc_ge (cnt_pos.mp (by omega)) (cnt_pos.mp (by omega))
    omega
/-! ### as changes around a closed row -/
def linB : List Bool → Nat
  | a :: b :: r => (if a = b then 0 else 1) + linB (b :: r)
  | _ => 0
theorem linB_snoc (x : Bool) : ∀ (l : List Bool) (y : Bool), linB (l ++ [y, x]) = linB (l ++ [y]) + if y = x then 0 else 1
  | [], y => by simp [linB]
  | [a], y => by simp [linB]
  | a :: b :: r, y => by
    have := linB_snoc x (b :: r) y
    simp [linB] at this ⊢
    rw [this]; omega
theorem linB_rev : ∀ l : List Bool, linB l.reverse = linB l
  | [] => rfl
  | [_] => rfl
  | a :: b :: r => by
    have ih := linB_rev (b :: r)
    rw [List.reverse_cons] at ih ⊢
    rw [List.reverse_cons, List.append_assoc]
    show linB (r.reverse ++ [b, a]) = _
    rw [linB_snoc, ih, linB]
    by_cases h : a = b
    · subst h; simp
    · rw [if_neg h, if_neg (fun e => h e.symm)]; omega
theorem chg_lin : ∀ (ts : List (Option Bool)) (s : Bool), chgS s ts = linB (s :: ts.filterMap id)
  | [], _ => rfl
  | none :: ts, s => by
    have := chg_lin ts s
    rw [chgS]; simpa [mvS] using this
  | some t :: ts, s => by
    have := chg_lin ts t
    rw [chgS]
    show (if t = s then 0 else 1) + chgS t ts = linB (s :: t :: ts.filterMap id)
    rw [linB, this]
    cases s <;> cases t <;> rfl
theorem fin_last : ∀ (ts : List (Option Bool)) (s : Bool), finS s ts = (ts.filterMap id).getLastD s
  | [], _ => rfl
  | none :: ts, s => fin_last ts s
  | some t :: ts, s => by
    show finS t ts = (t :: ts.filterMap id).getLastD s
    rw [fin_last ts, List.getLastD_cons]
theorem cyc_lin (ts : List (Option Bool)) : cycS ts = linB ((ts.filterMap id).getLastD false :: ts.filterMap id) := by
  rw [cycS, chg_lin, fin_last]
theorem cyc_rev (ts : List (Option Bool)) : cycS ts.reverse = cycS ts := by
  rw [cyc_lin, cyc_lin, List.filterMap_reverse]
  generalize ts.filterMap id = l
  rcases l with _ | ⟨a, r⟩
  · rfl
  · have h1 : (a :: r).reverse.getLastD false = a := by simp
    rw [h1]
    have h2 : a :: (a :: r).reverse = ((a :: r) ++ [a]).reverse := by simp
    rw [h2, linB_rev]
    rcases List.eq_nil_or_concat (a :: r) with e | ⟨m, y, e⟩
    · cases e
    · rw [List.concat_eq_append] at e
      rw [e]
      have h3 : (m ++ [y]).getLastD false = y := by simp
      rw [h3, List.append_assoc]
      show linB (m ++ [y, a]) = _
      rw [linB_snoc]
      cases m with
      | nil => simp at e; obtain ⟨rfl, rfl⟩ := e; simp [linB]
      | cons b m =>
        simp at e
        obtain ⟨rfl, -⟩ := e
        show _ = linB (y :: a :: (m ++ [y]))
        rw [linB]
        show linB (a :: (m ++ [y])) + _ = _
        omega
/-- as a zip with the row turned by one -/
theorem cyc_zip (ts : List (Option Bool)) : cycS ts = (((ts.filterMap id).zip ((ts.filterMap id).drop 1 ++ (ts.filterMap id).take 1)).filter fun p => p.1 != p.2).length := by
  rw [cyc_lin]
  generalize ts.filterMap id = l
  have key : ∀ (l : List Bool) (x : Bool), ((l.zip (l.drop 1 ++ [x])).filter fun p => p.1 != p.2).length = linB (l ++ [x]) := by
    intro l
    induction l with
    | nil => intro x; rfl
    | cons a r ih =>
      intro x
      cases r with
      | nil => by_cases h : a = x <;> simp [linB, h]
      | cons b r =>
        have := ih x
        simp [linB] at this ⊢
        rw [List.filter_cons]
        by_cases h : a = b
        · subst h; simp [this]
        · simp [h, this]; omega
  rcases l with _ | ⟨a, r⟩
  · rfl
  · rw [show (a :: r).take 1 = [a] by simp, key]
    rcases List.eq_nil_or_concat (a :: r) with e | ⟨m, y, e⟩
    · cases e
    · rw [List.concat_eq_append] at e
      rw [e, show (m ++ [y]).getLastD false = y by simp, List.append_assoc]
      show _ = linB (m ++ [y, a])
      rw [linB_snoc]
      cases m with
      | nil => simp at e; obtain ⟨rfl, rfl⟩ := e; simp [linB]
      | cons b m =>
        simp at e
        obtain ⟨rfl, -⟩ := e
        show linB (y :: a :: (m ++ [y])) = linB (a :: (m ++ [y])) + _
        rw [linB]; omega
end Pv
namespace Pv
open PySem L2 PySem.Spec PyProof.Rows
/-- whether the wheel stands above the step -/
def stW (s d : Int) : Bool := decide (s < d)
def sdP (s : Int) (p : Str × Int × Int) : Option Bool := if p.2.2 ≤ s then some false else if s < p.2.1 then some true else none
def sdW (fs : Fk) (s : Int) (n : Str) : Option Bool := sdP s (fget fs n)
theorem st_clamp {p : Str × Int × Int} (h : p.2.1 ≤ p.2.2) (s d : Int) : stW s (clamp p d) = mvS (stW s d) (sdP s p) := by
  unfold stW sdP clamp
  by_cases h1 : p.2.2 ≤ s
  · rw [if_pos h1]; show _ = false; exact decide_eq_false (by omega)
  · rw [if_neg h1]
    by_cases h2 : s < p.2.1
    · rw [if_pos h2]; show _ = true; exact decide_eq_true (by omega)
    · rw [if_neg h2]; show _ = decide (s < d)
      rw [decide_eq_decide]; omega
theorem crosses_iff (s : Int) (n : Str) (a b : Int) : crosses s (n, a, b) = !(stW s b == stW s a) := by
  unfold crosses stW
  by_cases h1 : s < a <;> by_cases h2 : s < b <;> simp [h1, h2] <;> omega
section
variable {fs : Fk}
theorem fget_wf (wf : Wf fs) {n : Str} (h : n ∈ fnames fs) : (fget fs n).2.1 ≤ (fget fs n).2.2 := wf _ (fget_mem h).1
theorem end_side (wf : Wf fs) (s : Int) : ∀ (ns : List Str) (d : Int), (∀ n ∈ ns, n ∈ fnames fs) → stW s (endAt fs d ns) = finS (stW s d) (ns.map (sdW fs s))
  | [], d, _ => rfl
  | n :: ns, d, h => by
    rw [end_cons, end_side wf s ns _ (fun m hm => h m (List.mem_cons_of_mem _ hm)), List.map_cons, finS_cons, st_clamp (fget_wf wf (h n List.mem_cons_self))]
    rfl
theorem crs_chg (wf : Wf fs) (s : Int) : ∀ (ns : List Str) (d : Int), (∀ n ∈ ns, n ∈ fnames fs) → crs (ld fs d ns) s = (chgS (stW s d) (ns.map (sdW fs s)) : Nat)
  | [], d, _ => rfl
  | n :: ns, d, h => by
    have ih := crs_chg wf s ns (clamp (fget fs n) d) fun m hm => h m (List.mem_cons_of_mem _ hm)
    have hc := st_clamp (fget_wf wf (h n List.mem_cons_self)) s d
    unfold crs at ih ⊢
    rw [ld, List.filter_cons, crosses_iff, List.map_cons, chgS]
    show _ = (((if mvS (stW s d) (sdP s (fget fs n)) = stW s d then 0 else 1) + chgS (mvS (stW s d) (sdP s (fget fs n))) (ns.map (sdW fs s)) : Nat) : Int)
    rw [← hc]
    by_cases q : stW s (clamp (fget fs n) d) = stW s d
    · rw [if_pos q, q, beq_self_eq_true]
      rw [q] at ih
      simp [ih]
    · rw [if_neg q]
      have : (!(stW s (clamp (fget fs n) d) == stW s d)) = true := by simpa using q
      rw [if_pos this, List.length_cons]
      omega
/-- a later day's crossings -/
theorem crs_cyc (wf : Wf fs) {os : List Str} (hv : ∀ n ∈ os, n ∈ fnames fs) (s d : Int) : crs (ld fs (endAt fs d os) os) s = (cycS (os.map (sdW fs s)) : Nat) := by
  rw [crs_chg wf s os _ hv, end_side wf s os d hv, cyc_any]
def cycL (fs : Fk) (os : List Str) : List Int := (List.range 40).map fun (i : Nat) => ((cycS (os.map (sdW fs (i : Int))) : Nat) : Int)
theorem crsL_cyc (wf : Wf fs) {os : List Str} (hv : ∀ n ∈ os, n ∈ fnames fs) (d : Int) : crsL (ld fs (endAt fs d os) os) = cycL fs os := by
  unfold crsL cycL
  exact List.map_congr_left fun i _ => crs_cyc wf hv _ d
theorem each_cyc (bd : Bd fs) {os : List Str} (hv : ∀ n ∈ os, n ∈ fnames fs) : eachD fs os = (cycL fs os).sum := by
  have he := end_in bd hv (d := 0) (by omega) (by omega)
  rw [← crsL_cyc bd.wf hv 0, sum_crs _ (ld_bd bd os _ hv he.2.2.1 he.2.2.2), ld_sum]
  rfl
theorem fnames_map (nd : (fnames fs).Nodup) (s : Int) : (fnames fs).map (sdW fs s) = fs.map (sdP s) := by
  unfold fnames sdW
  rw [List.map_map]
  exact List.map_congr_left fun p hp => by
    show sdP s (fget fs p.1) = _
    rw [fget_self nd hp]
theorem cnt_perm {a b : List (Option Bool)} (h : a.Perm b) (c : Bool) : cntS c a = cntS c b := h.countP_eq _
theorem cnt_low (nd : (fnames fs).Nodup) {os : List Str} (hp : os.Perm (fnames fs)) (s : Int) : cntS false (os.map (sdW fs s)) = (fs.filter fun p => decide (p.2.2 ≤ s)).length := by
  rw [cnt_perm (hp.map _), fnames_map nd]
  unfold cntS
  rw [List.countP_map, List.countP_eq_length_filter]
  congr 1
  refine List.filter_congr fun p _ => ?_
  show (sdP s p == some false) = _
  unfold sdP
  by_cases h1 : p.2.2 ≤ s
  · rw [if_pos h1, decide_eq_true h1]; rfl
  · rw [if_neg h1, decide_eq_false h1]; split <;> rfl
theorem cnt_high (wf : Wf fs) (nd : (fnames fs).Nodup) {os : List Str} (hp : os.Perm (fnames fs)) (s : Int) : cntS true (os.map (sdW fs s)) = (fs.filter fun p => decide (s < p.2.1)).length := by
  rw [cnt_perm (hp.map _), fnames_map nd]
  unfold cntS
  rw [List.countP_map, List.countP_eq_length_filter]
  congr 1
  refine List.filter_congr fun p hp => ?_
  have := wf p hp
  show (sdP s p == some true) = _
  unfold sdP
  by_cases h1 : p.2.2 ≤ s
  · rw [if_pos h1, decide_eq_false (by omega)]; rfl
  · rw [if_neg h1]
    by_cases h2 : s < p.2.1
    · rw [if_pos h2, decide_eq_true h2]; rfl
    · rw [if_neg h2, decide_eq_false h2]; rfl
theorem lesser_cnt (wf : Wf fs) (nd : (fnames fs).Nodup) {os : List Str} (hp : os.Perm (fnames fs)) (s : Int) : lesserI fs s = (min (cntS false (os.map (sdW fs s))) (cntS true (os.map (sdW fs s))) : Nat) := by
  unfold lesserI
  rw [cnt_low nd hp, cnt_high wf nd hp]
  omega
theorem cyc_lesser (wf : Wf fs) (nd : (fnames fs).Nodup) {os : List Str} (hp : os.Perm (fnames fs)) (s : Int) : ((cycS (os.map (sdW fs s)) : Nat) : Int) ≤ 2 * lesserI fs s := by
  rw [lesser_cnt wf nd hp]
  have h1 := cyc_le false (os.map (sdW fs s))
  have h2 := cyc_le true (os.map (sdW fs s))
  omega
theorem sum_le {f g : Nat → Int} : ∀ (l : List Nat), (∀ i ∈ l, f i ≤ g i) → (l.map f).sum ≤ (l.map g).sum
  | [], _ => by simp
  | i :: l, h => by
    have := sum_le l fun j hj => h j (List.mem_cons_of_mem _ hj)
    have := h i List.mem_cons_self
    rw [List.map_cons, List.map_cons, List.sum_cons, List.sum_cons]; omega
theorem each_most (bd : Bd fs) (nd : (fnames fs).Nodup) {os : List Str} (hp : os.Perm (fnames fs)) : eachD fs os ≤ mostI fs := by
  rw [each_cyc bd fun n hn => hp.mem_iff.mp hn]
  exact sum_le _ fun i _ => cyc_lesser bd.wf nd hp _
end
end Pv
namespace Pv
open PySem L2 PySem.Spec PyProof.Rows
/-- comprehensions over encoded rows -/
theorem compL_enc {α : Type} {b : DG} {c : DT} {e : DD} {env : Ev} (enc : α → D) (p : α → Bool) (f : α → D) : ∀ {xs : List α}, (∀ x ∈ xs, ∃ env1, b (enc x) env = some env1 ∧ ∀ τ, c env1 τ = some (p x, τ) ∧ (p x = true → e env1 τ = some (f x, τ))) → ∀ τ, compL b c e (xs.map enc) env τ = some ((xs.filter p).map f, τ)
  | [], _, _ => rfl
  | x :: xs, h, τ => by
    obtain ⟨env1, h1, h2⟩ := h x List.mem_cons_self
    obtain ⟨h3, h4⟩ := h2 τ
    have ih := compL_enc enc p f (xs := xs) (fun y hy => h y (List.mem_cons_of_mem _ hy)) τ
    rw [List.map_cons, compL_cons h1, h3, bnd_s]
    cases hp : p x with
    | true => rw [if_pos rfl, h4 hp, bnd_s, ih, bnd_s, List.filter_cons, if_pos hp, List.map_cons]
    | false => rw [if_neg (by simp), ih, List.filter_cons, if_neg (by rw [hp]; simp)]
theorem compL_encM {α : Type} {b : DG} {e : DD} {env : Ev} (enc : α → D) (f : α → D) {xs : List α} (h : ∀ x ∈ xs, ∃ env1, b (enc x) env = some env1 ∧ ∀ τ, e env1 τ = some (f x, τ)) (τ : Tp) : compL b yes e (xs.map enc) env τ = some (xs.map f, τ) := by
  have := compL_enc (b := b) (c := yes) (e := e) (env := env) enc (fun _ => true) f (xs := xs) (fun x hx => by
    obtain ⟨env1, h1, h2⟩ := h x hx
    exact ⟨env1, h1, fun τ => ⟨rfl, fun _ => h2 τ⟩⟩) τ
  rw [this, List.filter_eq_self.mpr (fun _ _ => rfl)]
theorem comp2L_enc {α : Type} {b : DG} {it1 : DI} {vs1 : List Nat} {b1 : DG} {e : DD} {env : Ev} {m : Nat} (enc : α → D) (f : α → List D) : ∀ {xs : List α}, (∀ x ∈ xs, ∃ env1 ds1, b (enc x) env = some env1 ∧ ds1.length ≤ m ∧ (∀ τ, it1 env1 τ = some (ds1, τ)) ∧ ∀ τ, compL b1 yes e ds1 (wipeE env1 vs1) τ = some (f x, τ)) → m * xs.length ≤ 1000000 → ∀ τ, comp2L b yes it1 vs1 b1 yes e (xs.map enc) env τ = some (xs.flatMap f, τ)
  | [], _, _, τ => rfl
  | x :: xs, h, hm, τ => by
    obtain ⟨env1, ds1, h1, h2, h3, h4⟩ := h x List.mem_cons_self
    have ih := comp2L_enc enc f (xs := xs) (fun y hy => h y (List.mem_cons_of_mem _ hy)) (Nat.le_trans (Nat.mul_le_mul_left m (by simp)) hm) τ
    have hsz : ds1.length * (xs.length + 1) ≤ 1000000 := Nat.le_trans (Nat.mul_le_mul_right _ h2) hm
    show (match b (enc x) env with
    | none => none
    | some env1 => bnd (yes env1 τ) fun k τ1 => if k = true then bnd (it1 env1 τ1) fun ds1 τ2 => bnd (compL b1 yes e ds1 (wipeE env1 vs1) τ2) fun ys τ3 => bnd (comp2L b yes it1 vs1 b1 yes e (xs.map enc) env τ3) fun zs τ4 => if ds1.length * ((xs.map enc).length + 1) ≤ 1000000 then some (ys ++ zs, τ4) else none
      else comp2L b yes it1 vs1 b1 yes e (xs.map enc) env τ1) = _
    rw [h1]
    simp only [yes_s, bnd_s, if_true, h3, h4, ih, List.length_map, hsz]
    rfl
def insL (x : Str) (row : List Str) : List (List Str) := (List.range' 1 row.length).map fun i => row.take i ++ [x] ++ row.drop i
def ordP (ns : List Str) : List (List Str) := (ns.drop 1).foldl (fun found x => found.flatMap (insL x)) [ns.take 1]
theorem mem_insL {x : Str} {row o : List Str} : o ∈ insL x row ↔ ∃ i, 1 ≤ i ∧ i ≤ row.length ∧ o = row.take i ++ [x] ++ row.drop i := by
  unfold insL
  rw [List.mem_map]
  constructor
  · rintro ⟨i, hi, rfl⟩
    rw [List.mem_range'_1] at hi
    exact ⟨i, hi.1, by omega, rfl⟩
  · rintro ⟨i, h1, h2, rfl⟩
    exact ⟨i, by rw [List.mem_range'_1]; omega, rfl⟩
theorem insL_perm {x : Str} {row o : List Str} (h : o ∈ insL x row) : o.Perm (row ++ [x]) ∧ o.head? = row.head? := by
  obtain ⟨i, h1, h2, rfl⟩ := mem_insL.mp h
  refine ⟨ins_perm x row i, ?_⟩
  cases row with
  | nil => simp at h2; omega
  | cons a r =>
    obtain ⟨j, rfl⟩ : ∃ j, i = j + 1 := ⟨i - 1, by omega⟩
    simp
theorem foldI_mem : ∀ (t : List Str) (acc : List (List Str)) (o : List Str), o ∈ t.foldl (fun found x => found.flatMap (insL x)) acc → ∃ a ∈ acc, o.Perm (a ++ t) ∧ o.head? = a.head?
  | [], acc, o, h => ⟨o, h, by simp, rfl⟩
  | x :: t, acc, o, h => by
    rw [List.foldl_cons] at h
    obtain ⟨b, hb, p1, p2⟩ := foldI_mem t _ o h
    obtain ⟨a, ha, hb⟩ := List.mem_flatMap.mp hb
    obtain ⟨q1, q2⟩ := insL_perm hb
    refine ⟨a, ha, ?_, p2.trans q2⟩
    exact p1.trans (by rw [show a ++ x :: t = (a ++ [x]) ++ t by simp]; exact q1.append_right t)
theorem erase_split {x : Str} {o : List Str} (h : x ∈ o) : ∃ a b, o = a ++ x :: b := List.append_of_mem h
theorem foldI_of : ∀ (n : Nat) (t : List Str) (acc : List (List Str)) (a o r : List Str) (hd : Str), t.length = n → a ∈ acc → a = hd :: r → o.Perm (a ++ t) → o.head? = some hd → (a ++ t).Nodup → o ∈ t.foldl (fun found x => found.flatMap (insL x)) acc ∨ True := fun _ _ _ _ _ _ _ _ _ _ _ _ _ => .inr trivial
theorem foldI_snoc (t : List Str) (x : Str) (acc : List (List Str)) : (t ++ [x]).foldl (fun found x => found.flatMap (insL x)) acc = (t.foldl (fun found x => found.flatMap (insL x)) acc).flatMap (insL x) := by
  rw [List.foldl_append]; rfl
theorem mem_foldI (hd : Str) : ∀ (n : Nat) (t : List Str) (r : List Str), t.length = n → r.Perm t → (hd :: r) ∈ t.foldl (fun found x => found.flatMap (insL x)) [[hd]]
  | 0, t, r, hn, hp => by
    have : t = [] := List.eq_nil_of_length_eq_zero hn
    subst this
    have := hp.length_eq
    have : r = [] := List.eq_nil_of_length_eq_zero this
    subst this; simp
  | n + 1, t, r, hn, hp => by
    rcases List.eq_nil_or_concat t with e | ⟨t', x, e⟩
    · subst e; cases hn
    · rw [List.concat_eq_append] at e
      subst e
      rw [foldI_snoc, List.mem_flatMap]
      have hx : x ∈ r := hp.mem_iff.mpr (by simp)
      obtain ⟨a, b, rfl⟩ := List.append_of_mem hx
      have hp2 : (a ++ b).Perm t' := by
        have h1 : (x :: (a ++ b)).Perm (x :: t') := (List.perm_middle.symm.trans hp).trans (by simpa using (List.perm_middle (a := x) (l₁ := t') (l₂ := [])))
        exact h1.cons_inv
      refine ⟨hd :: (a ++ b), mem_foldI hd n t' (a ++ b) (by simp at hn; exact hn) hp2, mem_insL.mpr ⟨a.length + 1, by omega, by simp, ?_⟩⟩
      simp
theorem mem_ordP {h : Str} {t o : List Str} : o ∈ ordP (h :: t) ↔ ∃ r, r.Perm t ∧ o = h :: r := by
  unfold ordP
  show o ∈ t.foldl _ [[h]] ↔ _
  constructor
  · intro ho
    obtain ⟨a, ha, p, q⟩ := foldI_mem t _ o ho
    simp at ha
    subst ha
    cases o with
    | nil => cases q
    | cons y r =>
      have : y = h := by simpa using q
      subst this
      exact ⟨r, p.cons_inv, rfl⟩
  · rintro ⟨r, hp, rfl⟩
    exact mem_foldI h t.length t r rfl hp
theorem ordP_rnd {ns o : List Str} (hne : ns ≠ []) : o ∈ ordP ns ↔ o ∈ rndL ns := by
  cases ns with
  | nil => exact absurd rfl hne
  | cons h t => rw [mem_ordP, mem_rnd]
theorem ordP_perm {ns o : List Str} (hne : ns ≠ []) (h : o ∈ ordP ns) : o.Perm ns := rnd_perm ((ordP_rnd hne).mp h)
theorem insL_len (x : Str) (row : List Str) : (insL x row).length = row.length := by unfold insL; rw [List.length_map, List.length_range']
theorem foldI_len : ∀ (t : List Str) (acc : List (List Str)) (m : Nat), (∀ a ∈ acc, a.length = m) → (∀ o ∈ t.foldl (fun found x => found.flatMap (insL x)) acc, o.length = m + t.length)
  | [], acc, m, h => by simpa using h
  | x :: t, acc, m, h => fun o ho => by
    rw [List.foldl_cons] at ho
    have := foldI_len t _ (m + 1) (fun a ha => by
      obtain ⟨b, hb, hab⟩ := List.mem_flatMap.mp ha
      rw [(insL_perm hab).1.length_eq, List.length_append, h b hb]; rfl) o ho
    rw [this, List.length_cons]; omega
theorem flat_lenM {α β : Type} {f : α → List β} {m : Nat} : ∀ {xs : List α}, (∀ x ∈ xs, (f x).length = m) → (xs.flatMap f).length = xs.length * m
  | [], _ => by simp
  | x :: xs, h => by
    rw [List.flatMap_cons, List.length_append, h x List.mem_cons_self, flat_lenM fun y hy => h y (List.mem_cons_of_mem _ hy), List.length_cons, Nat.add_mul]; omega
theorem range1_D (n : Nat) : rngL 1 n = (List.range' 1 n).map fun (i : Nat) => PyData.int (i : Int) := by
  unfold rngL
  rw [show List.range' 1 n = (List.range n).map (1 + ·) by rw [List.range_eq_range', List.map_add_range'], List.map_map]
  exact List.map_congr_left fun i _ => congrArg PyData.int (by show (1 + (i : Int)) = ((1 + i : Nat) : Int); omega)
section
variable {tb : Nat → Option Df} {k : Nat}
theorem ins_row (x2 : Str) (row : List Str) (hl : row.length ≤ 100) (a b : Option Vl) (τ : Tp) : compL (gN 4) yes (shD (dBin addV (shD (dBin addV (shD (dSl (dVar 3) (oNone) (oSome (dVar 4)))) (shD (dLst (dCons (dVar 2) (dNil)))))) (shD (dSl (dVar 3) (oSome (dVar 4)) (oNone))))) (rngL 1 row.length) [a, b, some (.sh (.str x2)), some (.sh (lisS row)), none] τ = some ((insL x2 row).map lisS, τ) := by
  rw [range1_D]
  have := compL_map (b := gN 4) (e := (shD (dBin addV (shD (dBin addV (shD (dSl (dVar 3) (oNone) (oSome (dVar 4)))) (shD (dLst (dCons (dVar 2) (dNil)))))) (shD (dSl (dVar 3) (oSome (dVar 4)) (oNone)))))) (env := [a, b, some (.sh (.str x2)), some (.sh (lisS row)), none]) (fun d => match d with
    | .int i => lisS (row.take i.toNat ++ [x2] ++ row.drop i.toNat)
    | _ => .none) (ds := (List.range' 1 row.length).map fun (i : Nat) => PyData.int (i : Int)) (fun x hx => by
      obtain ⟨i, hi, rfl⟩ := List.mem_map.mp hx
      rw [List.mem_range'_1] at hi
      refine ⟨_, rfl, fun τ => ?_⟩
      have h1 : slD (lisS row) none (some (i : Int)) = some (.ow ((row.take i).map .str)) := by
        show some (Vl.ow (cutD (row.map PyData.str) none (some (i : Int)))) = _
        rw [cut_to, List.map_take]
      have h2 : slD (lisS row) (some (i : Int)) none = some (.ow ((row.drop i).map .str)) := by
        show some (Vl.ow (cutD (row.map PyData.str) (some (i : Int)) none)) = _
        rw [cut_from, List.map_drop]
      have h3 := add_ll (xs := (row.take i).map PyData.str) (ys := [.str x2]) (by simp; omega)
      have h4 := add_ll (xs := (row.take i).map PyData.str ++ [.str x2]) (ys := (row.drop i).map .str) (by simp; omega)
      simp only [shD_s, dBin_s, dSl_s, dVar_s, gN_s, oNone_s, oSome_s, bnd_s, dLst_s, dCons_s, dNil_s, List.set_cons_succ, List.set_cons_zero, List.getElem?_cons_succ, List.getElem?_cons_zero, h1, h2, Option.map_some, List.length_cons, List.length_nil]
      rw [if_pos (by omega)]
      simp only [bnd_s, h3, h4, Option.map_some]
      simp [lisS]) τ
  rw [this, List.map_map]
  unfold insL
  rw [List.map_map]
  simp
theorem rng2_of {ka : DA} {env : Ev} {τ τ' : Tp} {i j : Int} (h : ka env τ = some ([.int i, .int j], τ')) (h1 : j ≤ 16777216) (h2 : -16777216 ≤ j) (h3 : i ≤ 16777216) (h4 : -16777216 ≤ i) (h5 : j - i ≤ 16777216) : dRng2 ka env τ = some (rngL i (j - i).toNat, τ') := by
  rw [dRng2_s, h, bnd_s]
  exact if_pos ⟨h1, h2, h3, h4, h5⟩
theorem rng1_of {ka : DA} {env : Ev} {τ τ' : Tp} {j : Int} (h : ka env τ = some ([.int j], τ')) (h1 : j ≤ 16777216) (h2 : -16777216 ≤ j) : dRng1 ka env τ = some (rngL 0 j.toNat, τ') := by
  rw [dRng1_s, h, bnd_s]
  exact if_pos ⟨h1, h2⟩
theorem ord_loop (a : Option Vl) (t : List Str) : ∀ (acc : List (List Str)) (m : Nat) (x2 x3 x4 : Option Vl) (τ : Tp), (∀ r ∈ acc, r.length = m) → m + t.length ≤ 6 → acc.length * 6 ^ t.length ≤ 7776 →
    ∃ y2 y3 y4, forL (gN 2) (sAsg 1 (dComp2 [3, 4] [4] (dIt (dVar 1)) (gN 3) (yes) (dRng2 (dCons (dK (.int 1)) (dCons (shD (dBin addV (shD (dCl lenV (dCons (dVar 3) (dNil)))) (dK (.int 1)))) (dNil)))) (gN 4) (yes) (shD (dBin addV (shD (dBin addV (shD (dSl (dVar 3) (oNone) (oSome (dVar 4)))) (shD (dLst (dCons (dVar 2) (dNil)))))) (shD (dSl (dVar 3) (oSome (dVar 4)) (oNone))))))) (t.map .str) [a, some (.sh (.list (acc.map lisS))), x2, x3, x4] τ
      = some (.nx [a, some (.sh (.list ((t.foldl (fun found x => found.flatMap (insL x)) acc).map lisS))), y2, y3, y4], τ) := by
  induction t with
  | nil => exact fun acc m x2 x3 x4 τ _ _ _ => ⟨x2, x3, x4, rfl⟩
  | cons x t iht =>
    intro acc m x2 x3 x4 τ hr hm hc
    rw [List.length_cons] at hm hc
    have hl : (acc.flatMap (insL x)).length = acc.length * m := flat_lenM fun r h => by rw [insL_len, hr r h]
    have hm6 : acc.length * m ≤ acc.length * 6 := Nat.mul_le_mul_left _ (by omega)
    have hp : acc.length * 6 * 6 ^ t.length ≤ 7776 := by rw [Nat.mul_assoc, Nat.mul_comm 6, ← Nat.pow_succ]; exact hc
    have h1 : 1 ≤ 6 ^ t.length := Nat.one_le_pow _ _ (by omega)
    have hs : acc.length * 6 ≤ 7776 := Nat.le_trans (Nat.le_mul_of_pos_right _ h1) hp
    obtain ⟨y2, y3, y4, ih⟩ := iht (acc.flatMap (insL x)) (m + 1) (some (.sh (.str x))) x3 x4 τ (fun r h => by
      obtain ⟨b, hb, hab⟩ := List.mem_flatMap.mp h
      rw [(insL_perm hab).1.length_eq, List.length_append, hr b hb]; rfl) (by omega) (by rw [hl]; exact Nat.le_trans (Nat.mul_le_mul_right _ hm6) hp)
    refine ⟨y2, y3, y4, ?_⟩
    rw [List.map_cons, forL_cons rfl, List.foldl_cons]
    have hc2 : ∀ τ, comp2L (gN 3) yes (dRng2 (dCons (dK (.int 1)) (dCons (shD (dBin addV (shD (dCl lenV (dCons (dVar 3) (dNil)))) (dK (.int 1)))) (dNil)))) [4] (gN 4) yes (shD (dBin addV (shD (dBin addV (shD (dSl (dVar 3) (oNone) (oSome (dVar 4)))) (shD (dLst (dCons (dVar 2) (dNil)))))) (shD (dSl (dVar 3) (oSome (dVar 4)) (oNone))))) (acc.map lisS) [a, some (.sh (.list (acc.map lisS))), some (.sh (.str x)), none, none] τ = some ((acc.flatMap (insL x)).map lisS, τ) := fun τ => by
      rw [comp2L_enc (m := 6) lisS (fun r => (insL x r).map lisS) (fun r hr2 => ?_) (by omega) τ]
      · rw [List.map_flatMap]
      · have hrl := hr r hr2
        refine ⟨_, rngL 1 r.length, rfl, by rw [rngL_len]; omega, fun τ => ?_, fun τ => ?_⟩
        · have e : ((r.length : Int) + 1 - 1).toNat = r.length := by omega
          have g0 : dCons (dK (.int 1)) (dCons (shD (dBin addV (shD (dCl lenV (dCons (dVar 3) (dNil)))) (dK (.int 1)))) (dNil)) [a, some (.sh (.list (acc.map lisS))), some (.sh (.str x)), some (.sh (lisS r)), none] τ = some ([.int 1, .int ((r.length : Int) + 1)], τ) := by
            simp [lisS]
          have g1 := rng2_of g0 (by omega) (by omega) (by omega) (by omega) (by omega)
          rw [e] at g1
          exact g1
        · have := ins_row x r (by omega) a (some (.sh (.list (acc.map lisS)))) τ
          simp at this ⊢
          exact this
    have hb : ((acc.flatMap (insL x)).map lisS).length ≤ 1000000 := by rw [List.length_map, hl]; omega
    generalize (acc.flatMap (insL x)).map lisS = rows at hc2 hb ih
    generalize acc.map lisS = ac at hc2
    try simp at hc2
    simp [dComp2, hc2, hb]
    simpa using ih
theorem orders_p (h51 : tb 51 = some d51) {ns : List Str} (hl : ns.length ≤ 6) (τ : Tp) : callK tb (k + 1) 51 [.sh (.list (ns.map .str))] τ = some (.sh (.list ((ordP ns).map lisS)), τ) := by
  rw [call_s h51 rfl]
  have c1 : slD (.list (ns.map .str)) none (some 1) = some (.ow ((ns.take 1).map .str)) := by
    show some (Vl.ow (cutD (ns.map PyData.str) none (some ((1 : Nat) : Int)))) = _
    rw [cut_to, List.map_take]
  have c2 : slD (.list (ns.map .str)) (some 1) none = some (.ow ((ns.drop 1).map .str)) := by
    show some (Vl.ow (cutD (ns.map PyData.str) (some ((1 : Nat) : Int)) none)) = _
    rw [cut_from, List.map_drop]
  obtain ⟨y2, y3, y4, hlp⟩ := ord_loop (some (.sh (.list (ns.map .str)))) (ns.drop 1) [ns.take 1] (ns.take 1).length none none none τ (by simp) (by rw [List.length_take, List.length_drop]; omega) (by
    have : (ns.drop 1).length ≤ 5 := by rw [List.length_drop]; omega
    have := Nat.pow_le_pow_right (n := 6) (by omega) this
    simpa using this)
  unfold ordP
  try simp [lisS] at hlp
  simp [startE_s, c1, c2, hlp, lisS]
end
end Pv
namespace Pv
open PySem L2 PySem.Spec PyProof.Rows
theorem dcL_enc {α : Type} {b : DG} {k e : DD} {env : Ev} (enc : α → D) (kk : α → Key) (f : α → D) : ∀ {xs : List α} {acc : List (Key × D)}, (∀ x ∈ xs, ∃ env1 kd, b (enc x) env = some env1 ∧ keyD kd = some (kk x) ∧ ∀ τ, k env1 τ = some (kd, τ) ∧ e env1 τ = some (f x, τ)) → ∀ τ, dcL b yes k e (xs.map enc) acc env τ = some (mergeD acc (xs.map fun x => (kk x, f x)), τ)
  | [], acc, _, _ => rfl
  | x :: xs, acc, h, τ => by
    obtain ⟨env1, kd, h1, h2, h3⟩ := h x List.mem_cons_self
    have ih := dcL_enc (b := b) (k := k) (e := e) (env := env) enc kk f (xs := xs) (acc := putD acc (kk x) (f x)) (fun y hy => h y (List.mem_cons_of_mem _ hy)) τ
    rw [List.map_cons, dcL, h1]
    show bnd (yes env1 τ) _ = _
    rw [yes_s, bnd_s, if_pos rfl, (h3 τ).1, bnd_s, (h3 τ).2, bnd_s, h2]
    exact ih
/-- each once -/
def ddpF {κ : Type} [DecidableEq κ] (acc ks : List κ) : List κ := ks.foldl (fun a k => if k ∈ a then a else a ++ [k]) acc
theorem putD_keys {κ : Type} [DecidableEq κ] {kvs : List (κ × D)} {k : κ} {d : D} : (putD kvs k d).map (·.1) = if k ∈ kvs.map (·.1) then kvs.map (·.1) else kvs.map (·.1) ++ [k] := by
  by_cases h : k ∈ kvs.map (·.1)
  · rw [if_pos h]
    unfold putD
    rw [if_pos (hasK_iff.mpr h), List.map_map]
    refine List.map_congr_left fun p _ => ?_
    show (if p.1 = k then (p.1, d) else p).1 = p.1
    split <;> rfl
  · rw [if_neg h, putD_new h, List.map_append]; rfl
theorem mergeD_keys : ∀ (prs acc : List (Key × D)), (mergeD acc prs).map (·.1) = ddpF (acc.map (·.1)) (prs.map (·.1))
  | [], acc => rfl
  | p :: prs, acc => by
    show (mergeD (putD acc p.1 p.2) prs).map (·.1) = _
    rw [mergeD_keys prs, putD_keys]
    rfl
section
variable {κ : Type} [DecidableEq κ]
theorem ddpF_mem : ∀ (ks acc : List κ) (x : κ), x ∈ ddpF acc ks ↔ x ∈ acc ∨ x ∈ ks
  | [], acc, x => by simp [ddpF]
  | k :: ks, acc, x => by
    show x ∈ ddpF (if k ∈ acc then acc else acc ++ [k]) ks ↔ _
    rw [ddpF_mem ks]
    split
    · rename_i h
      constructor
      · rintro (h | h)
        · exact .inl h
        · exact .inr (List.mem_cons_of_mem _ h)
      · rintro (h1 | h1)
        · exact .inl h1
        · rcases List.mem_cons.mp h1 with rfl | h1
          · exact .inl h
          · exact .inr h1
    · simp [or_assoc]
theorem ddpF_nd : ∀ (ks acc : List κ), acc.Nodup → (ddpF acc ks).Nodup
  | [], acc, h => h
  | k :: ks, acc, h => by
    show (ddpF (if k ∈ acc then acc else acc ++ [k]) ks).Nodup
    refine ddpF_nd ks _ ?_
    split
    · exact h
    · rename_i hk
      rw [List.nodup_append]
      exact ⟨h, by simp, fun a ha b hb => by simp at hb; subst hb; exact fun e => hk (e ▸ ha)⟩
theorem ddpF_map {κ' : Type} [DecidableEq κ'] {g : κ → κ'} (hg : ∀ a b, g a = g b → a = b) : ∀ (ks acc : List κ), ddpF (acc.map g) (ks.map g) = (ddpF acc ks).map g
  | [], acc => rfl
  | k :: ks, acc => by
    show ddpF (if g k ∈ acc.map g then acc.map g else acc.map g ++ [g k]) (ks.map g) = (ddpF (if k ∈ acc then acc else acc ++ [k]) ks).map g
    have : g k ∈ acc.map g ↔ k ∈ acc := by
      rw [List.mem_map]
      exact ⟨fun ⟨a, h1, h2⟩ => hg _ _ h2 ▸ h1, fun h => ⟨k, h, rfl⟩⟩
    by_cases h : k ∈ acc
    · rw [if_pos h, if_pos (this.mpr h)]; exact ddpF_map hg ks acc
    · rw [if_neg h, if_neg (fun z => h (this.mp z))]
      have := ddpF_map hg ks (acc ++ [k])
      rw [List.map_append] at this
      exact this
end
def ddp (ks : List Int) : List Int := ddpF [] ks
theorem nd_perm {a b : List Int} (ha : a.Nodup) (hb : b.Nodup) (h : ∀ x, x ∈ a ↔ x ∈ b) : a.Perm b := (List.perm_ext_iff_of_nodup ha hb).mpr h
theorem leI_sorted (a : List Int) : (a.mergeSort leI).Pairwise fun x y => x ≤ y := by
  have := List.pairwise_mergeSort (le := leI) (fun a b c h1 h2 => by
    have := of_decide_eq_true h1; have := of_decide_eq_true h2; exact decide_eq_true (by omega)) (fun a b => by
    by_cases h : a ≤ b
    · simp [leI, h]
    · simp [leI, h]; omega) a
  exact this.imp fun h => of_decide_eq_true h
theorem srt_ddp {A B : List Int} (h : ∀ x, x ∈ A ↔ x ∈ B) : (ddp A).mergeSort leI = (ddp B).mergeSort leI := by
  refine leI_eq ?_ (leI_sorted _)
  refine (List.mergeSort_perm _ _).trans (nd_perm (ddpF_nd _ _ List.nodup_nil) (ddpF_nd _ _ List.nodup_nil) fun x => ?_)
  unfold ddp
  rw [ddpF_mem, ddpF_mem, h x]
/-- rising, none twice, just these -/
theorem srt_of {A R : List Int} (hs : R.Pairwise fun a b => a < b) (h : ∀ x, x ∈ R ↔ x ∈ A) : (ddp A).mergeSort leI = R := by
  refine leI_eq (nd_perm (hs.imp fun h => by omega) (ddpF_nd _ _ List.nodup_nil) fun x => ?_) (hs.imp fun h => by omega)
  unfold ddp
  rw [ddpF_mem, h x]; simp
theorem keys_ints {A : List Int} {f : Int → D} : ((mergeD [] (A.map fun i => ((Sum.inl i : Key), f i))).map fun kv => dKey kv.1) = (ddp A).map .int := by
  have h1 := mergeD_keys (A.map fun i => ((Sum.inl i : Key), f i)) []
  have h2 : ((A.map fun i => ((Sum.inl i : Key), f i)).map (·.1)) = A.map Sum.inl := by rw [List.map_map]; rfl
  rw [h2] at h1
  have h3 := ddpF_map (g := (Sum.inl : Int → Key)) (fun a b e => by cases e; rfl) A []
  rw [show ((mergeD [] (A.map fun i => ((Sum.inl i : Key), f i))).map fun kv => dKey kv.1) = ((mergeD [] (A.map fun i => ((Sum.inl i : Key), f i))).map (·.1)).map dKey by rw [List.map_map]; rfl, h1]
  show (ddpF ([].map Sum.inl) (A.map Sum.inl)).map dKey = _
  rw [h3, List.map_map]
  rfl
def amtS (fs : Fk) : List Int := (ordP (fnames fs)).map (eachD fs)
def amtL (fs : Fk) : List Int := (ddp (amtS fs)).mergeSort leI
section
variable {tb : Nat → Option Df} {k : Nat}
theorem amounts_s (h15 : tb 15 = some d15) (h16 : tb 16 = some d16) (h17 : tb 17 = some d17) (h26 : tb 26 = some d26) (h28 : tb 28 = some d28) (h46 : tb 46 = some d46) (h51 : tb 51 = some d51) (h52 : tb 52 = some d52) {fs : Fk} (nd : (fnames fs).Nodup) (hne : fs ≠ []) (hl : fs.length ≤ 6) (τ : Tp) :
    callK tb (k + 5) 52 [.sh (eF fs)] τ = some (.ow ((amtL fs).map .int), τ) := by
  rw [call_s h52 rfl]
  have hn : callK tb (k + 4) 46 [.sh (eF fs)] τ = some (.ow ((fnames fs).map .str), τ) := nof_s (k := k + 3) h46 fs τ
  have ho : callK tb (k + 4) 51 [.sh (.list ((fnames fs).map .str))] τ = some (.sh (.list ((ordP (fnames fs)).map lisS)), τ) := orders_p (k := k + 3) h51 (by unfold fnames; rw [List.length_map]; exact hl) τ
  have hnn : fnames fs ≠ [] := by unfold fnames; simpa using hne
  have hd := dcL_enc (b := gN 1) (k := shD (dDef (callK tb (k + 4) 28) (vCons (dVar 0) (vCons (shD (dCl tupC (dCons (dVar 1) (dNil)))) (vNil))))) (e := dK (.bool true)) (env := [some (.sh (eF fs)), none]) lisS (fun o => (Sum.inl (eachD fs o) : Key)) (fun _ => .bool true) (xs := ordP (fnames fs)) (acc := []) (fun o ho => by
    have hp := ordP_perm hnn ho
    have hl2 : o.length ≤ 6 := by rw [hp.length_eq]; unfold fnames; rw [List.length_map]; exact hl
    have he := fun τ => each_s (k := k) (v := tupS o) h15 h16 h17 h26 h28 nd (fun n hn => hp.mem_iff.mp hn) (fun e => hnn (by subst e; exact (List.Perm.nil_eq hp).symm)) (by omega) (.inr rfl) τ
    have he : ∀ τ, callK tb (k + 4) 28 [.sh (eF fs), .sh (tupS o)] τ = some (.sh (.int (eachD fs o)), τ) := he
    unfold tupS at he
    exact ⟨_, .int (eachD fs o), rfl, rfl, fun τ => ⟨by simp [lisS, he], rfl⟩⟩) τ
  have hk := keys_ints (A := amtS fs) (f := fun _ => .bool true)
  unfold amtS at hk
  rw [List.map_map] at hk
  have hk : ((mergeD [] ((ordP (fnames fs)).map fun o => ((Sum.inl (eachD fs o) : Key), PyData.bool true))).map fun kv => dKey kv.1) = (ddp (amtS fs)).map .int := hk
  generalize (ordP (fnames fs)).map lisS = rows at ho hd
  generalize mergeD [] ((ordP (fnames fs)).map fun o => ((Sum.inl (eachD fs o) : Key), PyData.bool true)) = kv at hd hk
  try simp at hd
  simp [startE_s, hn, ho, dsortedM, dDc, hd, hk, srtOk_ints, srtD_ints, amtL]
end
end Pv
namespace Pv
open PySem L2 PySem.Spec PyProof.Rows
def ovP (p : Str × Int × Int) : Str × Int × Int := (p.1, 40 - p.2.2, 40 - p.2.1)
def ovF (fs : Fk) : Fk := fs.map ovP
section
variable {fs : Fk}
theorem ov_names : fnames (ovF fs) = fnames fs := by
  unfold fnames ovF
  rw [List.map_map]; rfl
theorem ov_bd (bd : Bd fs) : Bd (ovF fs) := fun p hp => by
  obtain ⟨q, hq, rfl⟩ := List.mem_map.mp hp
  have := bd q hq
  show 0 ≤ 40 - q.2.2 ∧ 40 - q.2.2 ≤ 40 - q.2.1 ∧ 40 - q.2.1 ≤ 40
  omega
theorem fget_map {f : Str × Int × Int → Str × Int × Int} {g : Str → Str} (hf : ∀ p, (f p).1 = g p.1) (hg : ∀ a b, g a = g b → a = b) {n : Str} (h : n ∈ fnames fs) : fget (fs.map f) (g n) = f (fget fs n) := by
  unfold fget
  rw [List.find?_map]
  have : ((fun p : Str × Int × Int => decide (p.1 = g n)) ∘ f) = fun p => decide (p.1 = n) := by
    funext p
    show decide ((f p).1 = g n) = decide (p.1 = n)
    rw [hf, decide_eq_decide]
    exact ⟨fun h => hg _ _ h, fun h => by rw [h]⟩
  rw [this]
  obtain ⟨p, hp, e⟩ := List.mem_map.mp h
  cases q : fs.find? (fun p => decide (p.1 = n)) with
  | none => have := List.find?_eq_none.mp q p hp; simp [e] at this
  | some r => rfl
theorem fget_ov {n : Str} (h : n ∈ fnames fs) : fget (ovF fs) n = ovP (fget fs n) := fget_map (f := ovP) (g := id) (fun _ => rfl) (fun _ _ h => h) h
theorem sdP_ov {p : Str × Int × Int} (h : p.2.1 ≤ p.2.2) (s : Int) : sdP s (ovP p) = (sdP (39 - s) p).map not := by
  unfold sdP ovP
  dsimp only
  by_cases h1 : p.2.2 ≤ 39 - s
  · rw [if_pos h1, if_neg (by omega), if_pos (by omega)]; rfl
  · rw [if_neg h1]
    by_cases h2 : 39 - s < p.2.1
    · rw [if_pos h2, if_pos (by omega)]; rfl
    · rw [if_neg h2, if_neg (by omega), if_neg (by omega)]; rfl
theorem cyc_not (ts : List (Option Bool)) : cycS (ts.map fun t => t.map not) = cycS ts := by
  have h : ∀ (ts : List (Option Bool)) (s : Bool), chgS (!s) (ts.map fun t => t.map not) = chgS s ts ∧ finS (!s) (ts.map fun t => t.map not) = !finS s ts := by
    intro ts
    induction ts with
    | nil => intro s; exact ⟨rfl, rfl⟩
    | cons t ts ih =>
      intro s
      have e : mvS (!s) (t.map not) = !mvS s t := by cases t <;> rfl
      rw [List.map_cons, chgS, chgS, finS_cons, finS_cons, e]
      refine ⟨?_, (ih _).2⟩
      rw [(ih _).1]
      congr 1
      cases mvS s t <;> cases s <;> rfl
  rw [← cyc_any true, show true = !false from rfl, (h ts false).2, (h ts _).1]
  rfl
theorem cyc_ov (wf : Wf fs) {os : List Str} (hv : ∀ n ∈ os, n ∈ fnames fs) (s : Int) : cycS (os.map (sdW (ovF fs) s)) = cycS (os.map (sdW fs (39 - s))) := by
  rw [← cyc_not (os.map (sdW fs (39 - s))), List.map_map]
  congr 1
  exact List.map_congr_left fun n hn => by
    show sdP s (fget (ovF fs) n) = _
    rw [fget_ov (hv n hn), sdP_ov (fget_wf wf (hv n hn))]
    rfl
theorem range_rev {f : Int → Int} : ((List.range 40).map fun (i : Nat) => f (39 - (i : Int))) = ((List.range 40).map fun (i : Nat) => f (i : Int)).reverse := by
  apply List.ext_getElem
  · simp
  · intro i h1 h2
    simp at h1
    rw [List.getElem_reverse]
    simp
    congr 1
    omega
theorem cycL_ov (wf : Wf fs) {os : List Str} (hv : ∀ n ∈ os, n ∈ fnames fs) : cycL (ovF fs) os = (cycL fs os).reverse := by
  unfold cycL
  rw [← range_rev (f := fun s => ((cycS (os.map (sdW fs s)) : Nat) : Int))]
  exact List.map_congr_left fun i _ => by rw [cyc_ov wf hv]
theorem each_ov (bd : Bd fs) {os : List Str} (hv : ∀ n ∈ os, n ∈ fnames fs) : eachD (ovF fs) os = eachD fs os := by
  rw [each_cyc (ov_bd bd) (by rw [ov_names]; exact hv), each_cyc bd hv, cycL_ov bd.wf hv, List.sum_reverse]
theorem amt_ov (bd : Bd fs) (hne : fs ≠ []) : amtL (ovF fs) = amtL fs := by
  unfold amtL amtS
  rw [ov_names]
  congr 2
  refine List.map_congr_left fun o ho => each_ov bd fun n hn => ?_
  have hnn : fnames fs ≠ [] := by unfold fnames; simpa using hne
  exact (ordP_perm hnn ho).mem_iff.mp hn
theorem lesser_ov (wf : Wf fs) (s : Int) : lesserI (ovF fs) s = lesserI fs (39 - s) := by
  unfold lesserI ovF
  rw [List.filter_map, List.filter_map, List.length_map, List.length_map]
  have h1 : (fs.filter ((fun p : Str × Int × Int => decide (p.2.2 ≤ s)) ∘ ovP)) = fs.filter fun p => decide (39 - s < p.2.1) := List.filter_congr fun p _ => by
    show decide (40 - p.2.1 ≤ s) = _
    rw [decide_eq_decide]; omega
  have h2 : (fs.filter ((fun p : Str × Int × Int => decide (s < p.2.1)) ∘ ovP)) = fs.filter fun p => decide (p.2.2 ≤ 39 - s) := List.filter_congr fun p _ => by
    show decide (s < 40 - p.2.2) = _
    rw [decide_eq_decide]; omega
  rw [h1, h2, Int.min_comm]
theorem mostL_ov (wf : Wf fs) : mostL (ovF fs) = (mostL fs).reverse := by
  unfold mostL
  rw [← range_rev (f := fun s => 2 * lesserI fs s)]
  exact List.map_congr_left fun i _ => by rw [lesser_ov wf]
theorem lowI_ov (hne : fs ≠ []) : lowI (ovF fs) = 40 - highI fs := by
  have hne2 : ovF fs ≠ [] := by unfold ovF; simpa using hne
  obtain ⟨p, hp, e⟩ := high_mem hne
  refine maxI_eq (List.mem_map.mpr ⟨ovP p, List.mem_map.mpr ⟨p, hp, rfl⟩, by show 40 - p.2.2 = _; omega⟩) fun x hx => ?_
  obtain ⟨q, hq, rfl⟩ := List.mem_map.mp hx
  obtain ⟨r, hr, rfl⟩ := List.mem_map.mp hq
  have := le_high hr
  show 40 - r.2.2 ≤ _; omega
theorem highI_ov (hne : fs ≠ []) : highI (ovF fs) = 40 - lowI fs := by
  obtain ⟨p, hp, e⟩ := low_mem hne
  refine minI_eq (List.mem_map.mpr ⟨ovP p, List.mem_map.mpr ⟨p, hp, rfl⟩, by show 40 - p.2.1 = _; omega⟩) fun x hx => ?_
  obtain ⟨q, hq, rfl⟩ := List.mem_map.mp hx
  obtain ⟨r, hr, rfl⟩ := List.mem_map.mp hq
  have := low_le hr
  show _ ≤ 40 - r.2.1; omega
theorem least_ov (hne : fs ≠ []) : leastI (ovF fs) = leastI fs := by
  unfold leastI; rw [lowI_ov hne, highI_ov hne]; omega
theorem wid_ov (hne : fs ≠ []) : widI (ovF fs) = widI fs := by
  unfold widI; rw [lowI_ov hne, highI_ov hne]; congr 2; omega
theorem others_ov (n : Str) : others (ovF fs) n = ovF (others fs n) := by
  unfold others ovF
  rw [List.filter_map]
  rfl
theorem mostBy_ov {n : Str} (hn : n ∈ fnames fs) : mostBy (ovF fs) n = mostBy fs n := by
  unfold mostBy
  rw [others_ov, fget_ov hn]
  by_cases h : others fs n = []
  · rw [if_pos h, if_pos (by rw [h]; rfl)]
  · rw [if_neg h, if_neg (by unfold ovF; simpa using h), highI_ov h, lowI_ov h]
    show max (max 0 (40 - (fget fs n).2.2 - (40 - lowI (others fs n)))) (40 - highI (others fs n) - (40 - (fget fs n).2.1)) = _
    omega
theorem onlk_ov : onlk (ovF fs) = onlk fs := by
  unfold onlk
  rw [ov_names]
  exact List.filter_congr fun n hn => by rw [mostBy_ov hn]
theorem outL_ov (d : Int) : outL (ovF fs) d = outL fs (40 - d) := by
  unfold outL ovF
  rw [List.filter_map, List.map_map]
  congr 1
  refine List.filter_congr fun p _ => ?_
  show (!decide (40 - p.2.2 ≤ d ∧ d ≤ 40 - p.2.1)) = _
  congr 1
  rw [decide_eq_decide]; omega
/-- who must stay at home is the one least of all rows -/
theorem home_one {gs : Fk} {L M : List Str} (h : ∀ i : Nat, i < 41 → ∃ j : Nat, j < 41 ∧ outL fs (i : Int) = outL gs (j : Int)) (h' : ∀ i : Nat, i < 41 → ∃ j : Nat, j < 41 ∧ outL gs (i : Int) = outL fs (j : Int))
    (h1 : ∃ i : Nat, i < 41 ∧ L = outL fs (i : Int)) (h2 : ∀ i : Nat, i < 41 → W.dataLt (lotE (outL fs (i : Int))) (lotE L) = false)
    (k1 : ∃ i : Nat, i < 41 ∧ M = outL gs (i : Int)) (k2 : ∀ i : Nat, i < 41 → W.dataLt (lotE (outL gs (i : Int))) (lotE M) = false) : L = M := by
  obtain ⟨i, hi, rfl⟩ := h1
  obtain ⟨j, hj, rfl⟩ := k1
  obtain ⟨i', hi', e1⟩ := h i hi
  obtain ⟨j', hj', e2⟩ := h' j hj
  have q1 := k2 i' hi'
  have q2 := h2 j' hj'
  rw [← e1] at q1
  rw [← e2] at q2
  exact lotE_anti q1 q2
/-- the later day's shares -/
theorem clamp_ov {p : Str × Int × Int} (h : p.2.1 ≤ p.2.2) (d : Int) : clamp (ovP p) (40 - d) = 40 - clamp p d := by
  unfold clamp ovP; dsimp only; omega
theorem end_ov (wf : Wf fs) : ∀ (os : List Str) (d : Int), (∀ n ∈ os, n ∈ fnames fs) → endAt (ovF fs) (40 - d) os = 40 - endAt fs d os
  | [], d, _ => rfl
  | n :: os, d, hv => by
    rw [end_cons, end_cons, fget_ov (hv n List.mem_cons_self), clamp_ov (fget_wf wf (hv n List.mem_cons_self)), end_ov wf os _ fun m hm => hv m (List.mem_cons_of_mem _ hm)]
def absL (rows : Fk) : List (Str × Int) := rows.map fun p => (p.1, absI (p.2.1 - p.2.2))
theorem abs_ov (wf : Wf fs) : ∀ (os : List Str) (d : Int), (∀ n ∈ os, n ∈ fnames fs) → absL (ld (ovF fs) (40 - d) os) = absL (ld fs d os)
  | [], d, _ => rfl
  | n :: os, d, hv => by
    have ih := abs_ov wf os (clamp (fget fs n) d) fun m hm => hv m (List.mem_cons_of_mem _ hm)
    unfold absL at ih ⊢
    rw [ld, ld, List.map_cons, List.map_cons, fget_ov (hv n List.mem_cons_self), clamp_ov (fget_wf wf (hv n List.mem_cons_self)), ih]
    congr 2
    show absI (40 - d - (40 - clamp (fget fs n) d)) = absI (d - clamp (fget fs n) d)
    unfold absI
    split <;> split <;> omega
theorem abs_still : ∀ (os : List Str) (x : Int), (∀ n ∈ os, clamp (fget fs n) x = x) → absL (ld fs x os) = os.map fun n => (n, 0)
  | [], x, _ => rfl
  | n :: os, x, h => by
    have h1 := h n List.mem_cons_self
    have ih := abs_still os x fun m hm => h m (List.mem_cons_of_mem _ hm)
    unfold absL at ih ⊢
    rw [ld, List.map_cons, h1, ih, List.map_cons]
    congr 2
    show absI (x - x) = 0
    rw [Int.sub_self]; rfl
theorem abs_any (bd : Bd fs) {os : List Str} (hv : ∀ n ∈ os, n ∈ fnames fs) : absL (ld fs (endAt fs 40 os) os) = absL (ld fs (endAt fs 0 os) os) := by
  rcases meet bd.wf hv with ⟨h1, h2, h3⟩ | ⟨h1, h2⟩
  · have st : ∀ x, lowS fs os ≤ x → x ≤ highS fs os → ∀ n ∈ os, clamp (fget fs n) x = x := fun x hx hx2 n hn => by
      have a1 : (fget fs n).2.1 ≤ lowS fs os := maxI_le (List.mem_cons_of_mem _ (List.mem_map.mpr ⟨n, hn, rfl⟩))
      have a2 : highS fs os ≤ (fget fs n).2.2 := le_minI (List.mem_cons_of_mem _ (List.mem_map.mpr ⟨n, hn, rfl⟩))
      unfold clamp; omega
    rw [abs_still os _ (st _ (by omega) (by omega)), abs_still os _ (st _ (by omega) (by omega))]
  · rw [h2]
theorem share_ov (bd : Bd fs) {os : List Str} (hv : ∀ n ∈ os, n ∈ fnames fs) : shareL (ld (ovF fs) (endAt (ovF fs) 0 os) os) = shareL (ld fs (endAt fs 0 os) os) := by
  have h1 := end_ov bd.wf os 40 hv
  have h2 := abs_ov bd.wf os (endAt fs 40 os) hv
  rw [show (40 : Int) - 40 = 0 from rfl] at h1
  rw [h1]
  show (absL _).mergeSort _ = (absL _).mergeSort _
  rw [h2, abs_any bd hv]
end
end Pv
namespace Pv
open PySem L2 PySem.Spec PyProof.Rows
def xN (n : Str) : Str := ("x" : Str) ++ n
theorem xN_inj {a b : Str} (h : xN a = xN b) : a = b := by
  unfold xN at h
  have h2 : (("x" : Str) ++ a).cps = (("x" : Str) ++ b).cps := by rw [h]
  have h3 : ("x" : Str).cps ++ a.cps = ("x" : Str).cps ++ b.cps := h2
  have h4 := Array.append_inj_right h3 rfl
  cases a; cases b; simp at h4; subst h4; rfl
def shP (b : Int) (p : Str × Int × Int) : Str × Int × Int := (xN p.1, p.2.1 + b, p.2.2 + b)
def shF (b : Int) (fs : Fk) : Fk := fs.map (shP b)
section
variable {fs : Fk} {b : Int}
theorem sh_names : fnames (shF b fs) = (fnames fs).map xN := by
  unfold fnames shF
  rw [List.map_map, List.map_map]; rfl
theorem nodup_map {α β : Type} {f : α → β} (hf : ∀ a b, f a = f b → a = b) {l : List α} (h : l.Nodup) : (l.map f).Nodup := by
  unfold List.Nodup at h ⊢
  rw [List.pairwise_map]
  exact h.imp fun hn e => hn (hf _ _ e)
theorem sh_nd (nd : (fnames fs).Nodup) : (fnames (shF b fs)).Nodup := by
  rw [sh_names]; exact nodup_map (fun _ _ => xN_inj) nd
theorem fget_sh {n : Str} (h : n ∈ fnames fs) : fget (shF b fs) (xN n) = shP b (fget fs n) := fget_map (f := shP b) (g := xN) (fun _ => rfl) (fun _ _ => xN_inj) h
theorem sh_bd (bd : Bd fs) (h0 : 0 ≤ b) (hb : ∀ p ∈ fs, p.2.2 + b ≤ 40) : Bd (shF b fs) := fun p hp => by
  obtain ⟨q, hq, rfl⟩ := List.mem_map.mp hp
  have := bd q hq
  have := hb q hq
  show 0 ≤ q.2.1 + b ∧ q.2.1 + b ≤ q.2.2 + b ∧ q.2.2 + b ≤ 40
  omega
theorem clamp_sh (p : Str × Int × Int) (d : Int) : clamp (shP b p) (d + b) = clamp p d + b := by
  unfold clamp shP; dsimp only; omega
theorem sett_sh : ∀ (os : List Str) (d : Int), (∀ n ∈ os, n ∈ fnames fs) → sett (shF b fs) (d + b) (os.map xN) = (sett fs d os).map (· + b)
  | [], d, _ => rfl
  | n :: os, d, hv => by
    rw [List.map_cons, sett, sett, fget_sh (hv n List.mem_cons_self), clamp_sh, sett_sh os _ fun m hm => hv m (List.mem_cons_of_mem _ hm)]
    rfl
theorem end_sh : ∀ (os : List Str) (d : Int), (∀ n ∈ os, n ∈ fnames fs) → endAt (shF b fs) (d + b) (os.map xN) = endAt fs d os + b
  | [], d, _ => rfl
  | n :: os, d, hv => by
    rw [List.map_cons, end_cons, end_cons, fget_sh (hv n List.mem_cons_self), clamp_sh, end_sh os _ fun m hm => hv m (List.mem_cons_of_mem _ hm)]
theorem walk_sh : ∀ (rows : List Int) (d : Int), walkLen (d + b) (rows.map (· + b)) = walkLen d rows
  | [], d => rfl
  | x :: rows, d => by
    rw [List.map_cons, walkLen, walkLen, walk_sh rows]
    congr 2; omega
theorem each_sh (bd : Bd fs) (h0 : 0 ≤ b) (hb : ∀ p ∈ fs, p.2.2 + b ≤ 40) (hb2 : b ≤ 40) {os : List Str} (hv : ∀ n ∈ os, n ∈ fnames fs) : eachD (shF b fs) (os.map xN) = eachD fs os := by
  have hv2 : ∀ n ∈ os.map xN, n ∈ fnames (shF b fs) := fun n hn => by
    rw [sh_names]
    obtain ⟨m, hm, rfl⟩ := List.mem_map.mp hn
    exact List.mem_map.mpr ⟨m, hv m hm, rfl⟩
  rw [← turn_each (sh_bd bd h0 hb) hv2 h0 hb2]
  have e := end_sh (b := b) os 0 hv
  rw [Int.zero_add] at e
  rw [e]
  unfold turnD
  rw [sett_sh os _ hv, walk_sh]
  rfl
theorem insL_map (g : Str → Str) (x : Str) (row : List Str) : insL (g x) (row.map g) = (insL x row).map (·.map g) := by
  unfold insL
  rw [List.map_map, List.length_map]
  exact List.map_congr_left fun i _ => by simp [List.map_take, List.map_drop]
theorem ordP_map (g : Str → Str) (ns : List Str) : ordP (ns.map g) = (ordP ns).map (·.map g) := by
  unfold ordP
  rw [← List.map_drop, ← List.map_take]
  have : ∀ (t : List Str) (acc : List (List Str)), (t.map g).foldl (fun found x => found.flatMap (insL x)) (acc.map (·.map g)) = (t.foldl (fun found x => found.flatMap (insL x)) acc).map (·.map g) := by
    intro t
    induction t with
    | nil => intro acc; rfl
    | cons x t ih =>
      intro acc
      rw [List.map_cons, List.foldl_cons, List.foldl_cons, ← ih]
      congr 1
      rw [List.flatMap_map, List.map_flatMap]
      exact congrArg (fun f => List.flatMap f acc) (funext fun r => insL_map g x r)
  exact this _ [ns.take 1]
theorem amt_sh (bd : Bd fs) (hne : fs ≠ []) (h0 : 0 ≤ b) (hb : ∀ p ∈ fs, p.2.2 + b ≤ 40) (hb2 : b ≤ 40) : amtL (shF b fs) = amtL fs := by
  have hnn : fnames fs ≠ [] := by unfold fnames; simpa using hne
  unfold amtL amtS
  rw [sh_names, ordP_map, List.map_map]
  congr 2
  exact List.map_congr_left fun o ho => each_sh bd h0 hb hb2 fun n hn => (ordP_perm hnn ho).mem_iff.mp hn
theorem lesser_sh (s : Int) : lesserI (shF b fs) s = lesserI fs (s - b) := by
  unfold lesserI shF
  rw [List.filter_map, List.filter_map, List.length_map, List.length_map]
  have h1 : (fs.filter ((fun p : Str × Int × Int => decide (p.2.2 ≤ s)) ∘ shP b)) = fs.filter fun p => decide (p.2.2 ≤ s - b) := List.filter_congr fun p _ => by
    show decide (p.2.2 + b ≤ s) = _
    rw [decide_eq_decide]; omega
  have h2 : (fs.filter ((fun p : Str × Int × Int => decide (s < p.2.1)) ∘ shP b)) = fs.filter fun p => decide (s - b < p.2.1) := List.filter_congr fun p _ => by
    show decide (s < p.2.1 + b) = _
    rw [decide_eq_decide]; omega
  rw [h1, h2]
theorem lesser_zero {s : Int} (h : (∀ p ∈ fs, ¬ p.2.2 ≤ s) ∨ ∀ p ∈ fs, ¬ s < p.2.1) : lesserI fs s = 0 := by
  unfold lesserI
  rcases h with h | h
  · rw [List.filter_eq_nil_iff.mpr fun p hp => by simpa using h p hp]
    show min (0 : Int) _ = 0
    omega
  · rw [List.filter_eq_nil_iff (p := fun p : Str × Int × Int => decide (s < p.2.1)) |>.mpr fun p hp => by simpa using h p hp]
    show min _ (0 : Int) = 0
    omega
theorem sum_shift (f : Int → Int) : ∀ (k : Nat), (∀ t : Int, t < 0 → f t = 0) → (∀ t : Int, 40 - (k : Int) ≤ t → f t = 0) → ((List.range 40).map fun (i : Nat) => f ((i : Int) - k)).sum = ((List.range 40).map fun (i : Nat) => f (i : Int)).sum
  | 0, _, _ => by simp
  | k + 1, h1, h2 => by
    rw [← sum_shift f k h1 fun t ht => h2 t (by omega)]
    have e1 : (List.range 40) = 0 :: (List.range 39).map (· + 1) := by decide
    have e2 : (List.range 40) = List.range 39 ++ [39] := by decide
    have l : ((List.range 40).map fun (i : Nat) => f ((i : Int) - ((k + 1 : Nat) : Int))).sum = ((List.range 39).map fun (i : Nat) => f ((i : Int) - k)).sum := by
      rw [e1, List.map_cons, List.sum_cons, List.map_map, h1 _ (by omega), Int.zero_add]
      congr 1
      exact List.map_congr_left fun i _ => by show f (((i + 1 : Nat) : Int) - ((k + 1 : Nat) : Int)) = _; congr 1; omega
    have r : ((List.range 40).map fun (i : Nat) => f ((i : Int) - k)).sum = ((List.range 39).map fun (i : Nat) => f ((i : Int) - k)).sum := by
      rw [e2, List.map_append, List.sum_append]
      show _ + (f (((39 : Nat) : Int) - k) + 0) = _
      rw [h2 _ (by omega)]; omega
    rw [l, r]
theorem most_sh (bd : Bd fs) (h0 : 0 ≤ b) (hb : ∀ p ∈ fs, p.2.2 + b ≤ 40) : mostI (shF b fs) = mostI fs := by
  obtain ⟨k, rfl⟩ := Int.eq_ofNat_of_zero_le h0
  unfold mostI mostL
  rw [← sum_shift (fun s => 2 * lesserI fs s) k (fun t ht => ?_) fun t ht => ?_]
  · congr 1
    exact List.map_congr_left fun i _ => by rw [lesser_sh]
  · rw [lesser_zero (.inl fun p hp => by have := bd p hp; omega)]; rfl
  · rw [lesser_zero (.inr fun p hp => by have := bd p hp; have := hb p hp; omega)]; rfl
theorem others_sh (n : Str) : others (shF b fs) (xN n) = shF b (others fs n) := by
  unfold others shF
  rw [List.filter_map]
  congr 1
  refine List.filter_congr fun p _ => ?_
  show decide (xN p.1 ≠ xN n) = _
  rw [decide_eq_decide]
  exact ⟨fun h e => h (by rw [e]), fun h e => h (xN_inj e)⟩
theorem lowI_sh (hne : fs ≠ []) : lowI (shF b fs) = lowI fs + b := by
  obtain ⟨p, hp, e⟩ := low_mem hne
  refine maxI_eq (List.mem_map.mpr ⟨shP b p, List.mem_map.mpr ⟨p, hp, rfl⟩, by show p.2.1 + b = _; omega⟩) fun x hx => ?_
  obtain ⟨q, hq, rfl⟩ := List.mem_map.mp hx
  obtain ⟨r, hr, rfl⟩ := List.mem_map.mp hq
  have := low_le hr
  show r.2.1 + b ≤ _; omega
theorem highI_sh (hne : fs ≠ []) : highI (shF b fs) = highI fs + b := by
  obtain ⟨p, hp, e⟩ := high_mem hne
  refine minI_eq (List.mem_map.mpr ⟨shP b p, List.mem_map.mpr ⟨p, hp, rfl⟩, by show p.2.2 + b = _; omega⟩) fun x hx => ?_
  obtain ⟨q, hq, rfl⟩ := List.mem_map.mp hx
  obtain ⟨r, hr, rfl⟩ := List.mem_map.mp hq
  have := le_high hr
  show _ ≤ r.2.2 + b; omega
theorem mostBy_sh {n : Str} (hn : n ∈ fnames fs) : mostBy (shF b fs) (xN n) = mostBy fs n := by
  unfold mostBy
  rw [others_sh, fget_sh hn]
  by_cases h : others fs n = []
  · rw [if_pos h, if_pos (by rw [h]; rfl)]
  · rw [if_neg h, if_neg (by unfold shF; simpa using h), highI_sh h, lowI_sh h]
    show max (max 0 ((fget fs n).2.1 + b - _)) (_ - ((fget fs n).2.2 + b)) = _
    omega
theorem onlk_sh : onlk (shF b fs) = (onlk fs).map xN := by
  unfold onlk
  rw [sh_names, List.filter_map]
  congr 1
  exact List.filter_congr fun n hn => by
    show decide (mostBy (shF b fs) (xN n) = 0) = _
    rw [mostBy_sh hn]
end
end Pv
namespace Pv
open PySem L2 PySem.Spec PyProof.Rows
/-- one wider, or one left out -/
inductive Fewer (fs gs : Fk) : Prop
  | wide {a b : Fk} {p q : Str × Int × Int} : fs = a ++ p :: b → gs = a ++ q :: b → q.1 = p.1 → q.2.1 ≤ p.2.1 → p.2.2 ≤ q.2.2 → Fewer fs gs
  | out {a b : Fk} {p : Str × Int × Int} : fs = a ++ p :: b → gs = a ++ b → Fewer fs gs
section
variable {fs gs : Fk}
theorem Fewer.cnt (h : Fewer fs gs) {P : Str × Int × Int → Bool} (hp : ∀ p q : Str × Int × Int, q.2.1 ≤ p.2.1 → p.2.2 ≤ q.2.2 → q.1 = p.1 → P q = true → P p = true) : (gs.filter P).length ≤ (fs.filter P).length := by
  cases h with
  | @wide a b p q e1 e2 h1 h2 h3 =>
    rw [e1, e2, List.filter_append, List.filter_append, List.length_append, List.length_append, List.filter_cons, List.filter_cons]
    by_cases h : P q = true
    · rw [if_pos h, if_pos (hp p q h2 h3 h1 h)]; exact Nat.le_refl _
    · rw [if_neg h]; split
      · rw [List.length_cons]; omega
      · exact Nat.le_refl _
  | @out a b p e1 e2 =>
    rw [e1, e2, List.filter_append, List.filter_append, List.length_append, List.length_append, List.filter_cons]
    split
    · rw [List.length_cons]; omega
    · exact Nat.le_refl _
theorem Fewer.lesser (h : Fewer fs gs) (s : Int) : lesserI gs s ≤ lesserI fs s := by
  have h1 := h.cnt (P := fun p => decide (p.2.2 ≤ s)) fun p q _ h3 _ h4 => decide_eq_true (by have := of_decide_eq_true h4; omega)
  have h2 := h.cnt (P := fun p => decide (s < p.2.1)) fun p q h3 _ _ h4 => decide_eq_true (by have := of_decide_eq_true h4; omega)
  unfold lesserI
  omega
theorem Fewer.most (h : Fewer fs gs) : mostI gs ≤ mostI fs := sum_le _ fun i _ => by have := h.lesser (i : Int); omega
/-- each of the fewer stands for one of the folk -/
theorem Fewer.mem (h : Fewer fs gs) {q : Str × Int × Int} (hq : q ∈ gs) : ∃ p ∈ fs, q.2.1 ≤ p.2.1 ∧ p.2.2 ≤ q.2.2 ∧ q.1 = p.1 := by
  cases h with
  | @wide a b p q' e1 e2 h1 h2 h3 =>
    subst e1; subst e2
    rcases List.mem_append.mp hq with h | h
    · exact ⟨q, List.mem_append.mpr (.inl h), Int.le_refl _, Int.le_refl _, rfl⟩
    · rcases List.mem_cons.mp h with rfl | h
      · exact ⟨p, by simp, h2, h3, h1⟩
      · exact ⟨q, by simp [h], Int.le_refl _, Int.le_refl _, rfl⟩
  | @out a b p e1 e2 =>
    subst e1; subst e2
    refine ⟨q, ?_, Int.le_refl _, Int.le_refl _, rfl⟩
    rcases List.mem_append.mp hq with h | h
    · exact List.mem_append.mpr (.inl h)
    · simp [h]
theorem Fewer.low (h : Fewer fs gs) (hne : gs ≠ []) : lowI gs ≤ lowI fs := by
  obtain ⟨q, hq, e⟩ := low_mem hne
  obtain ⟨p, hp, h1, _⟩ := h.mem hq
  have := low_le hp; omega
theorem Fewer.high (h : Fewer fs gs) (hne : gs ≠ []) : highI fs ≤ highI gs := by
  obtain ⟨q, hq, e⟩ := high_mem hne
  obtain ⟨p, hp, _, h1, _⟩ := h.mem hq
  have := le_high hp; omega
theorem Fewer.least (h : Fewer fs gs) (hne : gs ≠ []) : leastI gs ≤ leastI fs := by
  have := h.low hne; have := h.high hne
  unfold leastI; omega
theorem Fewer.wid (h : Fewer fs gs) (hne : gs ≠ []) : widI gs ≤ widI fs := by
  have := h.low hne; have := h.high hne
  unfold widI; omega
theorem Fewer.out_len (h : Fewer fs gs) (d : Int) : (outL gs d).length ≤ (outL fs d).length := by
  unfold outL
  rw [List.length_map, List.length_map]
  exact h.cnt fun p q h1 h2 _ h3 => by
    simp only [Bool.not_eq_true', decide_eq_false_iff_not] at h3 ⊢
    omega
theorem lotE_ltT {a b : List Str} (h : a.length < b.length) : W.dataLt (lotE a) (lotE b) = true := by
  rw [lotE_toD, lotE_toD, W.DatumOrd.lt_eq]
  show (if ((a.length : Int)) = (b.length : Int) then _ else decide ((a.length : Int) < (b.length : Int))) = true
  rw [if_neg (by omega)]
  exact decide_eq_true (by omega)
theorem home_le {L M : List Str} (h : Fewer fs gs) (hl : ∀ i : Nat, i < 41 → W.dataLt (lotE (outL gs (i : Int))) (lotE M) = false) (hm : ∃ i : Nat, i < 41 ∧ L = outL fs (i : Int)) : M.length ≤ L.length := by
  obtain ⟨i, hi, rfl⟩ := hm
  have h1 := hl i hi
  have h2 := h.out_len (i : Int)
  rcases Nat.lt_or_ge (outL gs (i : Int)).length M.length with h3 | h3
  · rw [lotE_ltT h3] at h1; cases h1
  · omega
theorem Fewer.names (h : Fewer fs gs) : (fnames gs).Sublist (fnames fs) := by
  cases h with
  | @wide a b p q e1 e2 h1 h2 h3 =>
    subst e1; subst e2
    unfold fnames
    rw [List.map_append, List.map_append, List.map_cons, List.map_cons, h1]
    exact List.Sublist.refl _
  | @out a b p e1 e2 =>
    subst e1; subst e2
    exact List.Sublist.map _ (List.Sublist.append_left (List.sublist_cons_self _ _) _)
end
end Pv
namespace Pv
open PySem L2 PySem.Spec PyProof.Rows
theorem plns_of : ∀ {xs : List D}, (∀ x ∈ xs, pln x = true) → plns xs = true
  | [], _ => rfl
  | x :: xs, h => by
    show (pln x && plns xs) = true
    rw [h x List.mem_cons_self, plns_of fun y hy => h y (List.mem_cons_of_mem _ hy)]; rfl
theorem depthAll_of {n : Nat} : ∀ {xs : List D}, (∀ x ∈ xs, x.depth ≤ n) → PyData.depthAll xs ≤ n
  | [], _ => by simp [PyData.depthAll]
  | x :: xs, h => by
    have h1 := h x List.mem_cons_self
    have h2 := depthAll_of (n := n) fun y hy => h y (List.mem_cons_of_mem _ hy)
    rw [PyData.depthAll]; omega
theorem Lk.pln : ∀ {n : Nat} {d : D}, Lk n d → pln d = true ∧ d.depth ≤ n + 1
  | 0, d, h => by cases d <;> first | exact ⟨rfl, by simp [PyData.depth]⟩ | cases h
  | n + 1, d, h => by
    rcases h with h | ⟨xs, h1, h2, h3⟩
    · have := Lk.pln (n := 0) h
      exact ⟨this.1, by omega⟩
    · have hp := plns_of fun x hx => (Lk.pln (h3 x hx)).1
      have hd := depthAll_of fun x hx => (Lk.pln (h3 x hx)).2
      rcases h1 with rfl | rfl
      · exact ⟨hp, by rw [PyData.depth]; omega⟩
      · exact ⟨hp, by rw [PyData.depth]; omega⟩
theorem ne_lk {n : Nat} {d : D} (h : Lk n d) (hn : n ≤ 59) : neV d d = some (.sh (.bool false)) := ne_false h.pln.1 (by have := h.pln.2; omega)
theorem eq_lk {n : Nat} {d : D} (h : Lk n d) (hn : n ≤ 59) : eqV d d = some (.sh (.bool true)) := eq_true h.pln.1 (by have := h.pln.2; omega)
theorem lk_list {n : Nat} {xs : List D} (h : ∀ x ∈ xs, Lk n x) (hl : xs.length ≤ 16777216) : Lk (n + 1) (.list xs) := .inr ⟨xs, .inl rfl, hl, h⟩
theorem lk_tuple {n : Nat} {xs : List D} (h : ∀ x ∈ xs, Lk n x) (hl : xs.length ≤ 16777216) : Lk (n + 1) (.tuple xs) := .inr ⟨xs, .inr rfl, hl, h⟩
theorem lk_strs (ns : List Str) (h : ns.length ≤ 16777216) : Lk 1 (.list (ns.map .str)) ∧ Lk 1 (.tuple (ns.map .str)) :=
  ⟨lk_list (fun x hx => by obtain ⟨n, _, rfl⟩ := List.mem_map.mp hx; exact (rfl : sca (.str n) = true)) (by simpa using h), lk_tuple (fun x hx => by obtain ⟨n, _, rfl⟩ := List.mem_map.mp hx; exact (rfl : sca (.str n) = true)) (by simpa using h)⟩
theorem map_inj {α β : Type} {f : α → β} (hf : ∀ x y, f x = f y → x = y) : ∀ {a b : List α}, a.map f = b.map f → a = b
  | [], [], _ => rfl
  | x :: a, y :: b, h => by
    rw [List.map_cons, List.map_cons] at h
    injection h with h1 h2
    rw [hf _ _ h1, map_inj hf h2]
  | [], _ :: _, h => by cases h
  | _ :: _, [], h => by cases h
/-- lists of ints compared -/
theorem ne_ints (a b : List Int) : neV (.list (a.map .int)) (.list (b.map .int)) = some (.sh (.bool (decide (a ≠ b)))) := by
  have hn : ∀ xs : List Int, nbs (xs.map PyData.int) = true := fun xs => by
    induction xs with
    | nil => rfl
    | cons x xs ih => exact ih
  have hd : ∀ xs : List Int, (PyData.list (xs.map PyData.int)).depth ≤ 60 := fun xs => by
    have := depthAll_of (n := 1) (xs := xs.map PyData.int) fun x hx => by
      obtain ⟨i, _, rfl⟩ := List.mem_map.mp hx
      simp [PyData.depth]
    rw [PyData.depth]; omega
  by_cases h : a = b
  · subst h
    rw [ne_false (by exact nbs_plns _ (hn a)) (hd a), decide_eq_false (by simp)]
  · unfold neV
    rw [if_pos (by have := hd a; omega), decide_eq_true h]
    cases he : PyData.eqv (.list (a.map .int)) (.list (b.map .int)) with
    | false => rfl
    | true =>
      have := eqv_eq _ _ (by rw [nb]; exact hn a) (by rw [nb]; exact hn b) he
      exact absurd (map_inj (fun x y e => by cases e; rfl) (PyData.list.inj this)) h
theorem eq_ints (a b : List Int) : eqV (.list (a.map .int)) (.list (b.map .int)) = some (.sh (.bool (decide (a = b)))) := by
  have h := ne_ints a b
  unfold neV at h
  unfold eqV
  split at h
  · rename_i hc
    rw [if_pos hc]
    cases he : PyData.eqv (.list (a.map .int)) (.list (b.map .int)) <;> rw [he] at h <;> by_cases q : a = b <;> simp [q] at h ⊢ 
  · cases h
end Pv
namespace Pv
open PySem L2 PySem.Spec PyProof.Rows
theorem nbs_e1 : ∀ xs : Fk, nbs (xs.map e1) = true
  | [] => rfl
  | x :: xs => by rw [List.map_cons, nbs, nbs_e1 xs]; rfl
theorem lk_eF (fs : Fk) (h : fs.length ≤ 16777216) : Lk 2 (eF fs) := lk_tuple (fun x hx => by
  obtain ⟨p, _, rfl⟩ := List.mem_map.mp hx
  exact lk_tuple (fun y hy => by
    simp at hy
    rcases hy with rfl | rfl | rfl
    · exact (rfl : sca (.str p.1) = true)
    · exact (rfl : sca (.int p.2.1) = true)
    · exact (rfl : sca (.int p.2.2) = true)) (by simp)) (by simpa using h)
theorem over_s (fs : Fk) (τ : Tp) : callK tb 40 66 [.sh (eF fs)] τ = some (.sh (eF (ovF fs)), τ) := by
  rw [call_s (k := 39) (i := 66) (d := d66) rfl rfl]
  have hc := compL_encM (b := gT [1, 2, 3]) (e := dTup (dCons (dVar 1) (dCons (shD (dBin subV (dK (.int 40)) (dVar 3))) (dCons (shD (dBin subV (dK (.int 40)) (dVar 2))) (dNil))))) (env := [some (.sh (eF fs)), none, none, none]) e1 (fun p => e1 (ovP p)) (xs := fs) (fun p _ => ⟨[some (.sh (eF fs)), some (.sh (.str p.1)), some (.sh (.int p.2.1)), some (.sh (.int p.2.2))], rfl, fun τ => by simp [e1, ovP]⟩) τ
  have he : (eF fs) = .tuple (fs.map e1) := rfl
  have he2 : eF (ovF fs) = .tuple (fs.map fun p => e1 (ovP p)) := by unfold eF ovF; rw [List.map_map]; rfl
  rw [he2]
  rw [he] at hc ⊢
  generalize (fs.map fun p => e1 (ovP p)) = out at hc ⊢
  generalize fs.map e1 = ds at hc ⊢
  try simp at hc
  simp [startE_s, hc]
theorem higher_s (fs : Fk) (b : Int) (e : Ev) (hl : ∀ p ∈ fs, p.1.length ≤ 100) (τ : Tp) (a0 a1 a2 a4 a5 a10 a11 : Option Vl) : compL (gT [7, 8, 9]) yes (dTup (dCons (shD (dBin addV (dK (.str ("x" : Str))) (dVar 7))) (dCons (shD (dBin addV (dVar 8) (dVar 6))) (dCons (shD (dBin addV (dVar 9) (dVar 6))) (dNil))))) (fs.map e1) [a0, a1, a2, some (.sh (eF fs)), a4, a5, some (.sh (.int b)), none, none, none, a10, a11] τ = some ((shF b fs).map e1, τ) := by
  have hc := compL_encM (b := gT [7, 8, 9]) (e := dTup (dCons (shD (dBin addV (dK (.str ("x" : Str))) (dVar 7))) (dCons (shD (dBin addV (dVar 8) (dVar 6))) (dCons (shD (dBin addV (dVar 9) (dVar 6))) (dNil))))) (env := [a0, a1, a2, some (.sh (eF fs)), a4, a5, some (.sh (.int b)), none, none, none, a10, a11]) e1 (fun p => e1 (shP b p)) (xs := fs) (fun p hp => ⟨[a0, a1, a2, some (.sh (eF fs)), a4, a5, some (.sh (.int b)), some (.sh (.str p.1)), some (.sh (.int p.2.1)), some (.sh (.int p.2.2)), a10, a11], rfl, fun τ => by
    have hx : addV (.str ("x" : Str)) (.str p.1) = some (.sh (.str (xN p.1))) := by
      show (if ("x" : Str).length + p.1.length ≤ 16777216 then _ else _) = _
      rw [if_pos (by have := hl p hp; have : ("x" : Str).length = 1 := rfl; omega)]; rfl
    simp [e1, shP, hx]⟩) τ
  rw [hc]
  unfold shF
  rw [List.map_map]; rfl
theorem called_s (os : List Str) (env : Ev) (h7 : 7 < env.length) (hl : ∀ n ∈ os, n.length ≤ 100) (τ : Tp) : compL (gN 7) yes (shD (dBin addV (dK (.str ("x" : Str))) (dVar 7))) (os.map .str) env τ = some ((os.map xN).map .str, τ) := by
  have hc := compL_encM (b := gN 7) (e := shD (dBin addV (dK (.str ("x" : Str))) (dVar 7))) (env := env) PyData.str (fun n => .str (xN n)) (xs := os) (fun n hn => ⟨_, rfl, fun τ => by
    have hx : addV (.str ("x" : Str)) (.str n) = some (.sh (.str (xN n))) := by
      show (if ("x" : Str).length + n.length ≤ 16777216 then _ else _) = _
      rw [if_pos (by have := hl n hn; have : ("x" : Str).length = 1 := rfl; omega)]; rfl
    have e7 : (env.set 7 (some (.sh (.str n))))[7]? = some (some (.sh (.str n))) := List.getElem?_set_self h7
    simp [e7, hx]⟩) τ
  rw [hc, List.map_map]; rfl
theorem cut_at {α : Type} {l : List α} {i : Nat} (h : i < l.length) : l = l.take i ++ l[i] :: l.drop (i + 1) := by
  rw [List.getElem_cons_drop, List.take_append_drop]
/-- one wider, one fewer -/
theorem changed_s {fs : Fk} {os : List Str} (bd : Bd fs) (nd : (fnames fs).Nodup) (hne : fs ≠ []) (hl : fs.length ≤ 6) (hp : os.Perm (fnames fs)) (τ : Tp) : ∃ v τ', callK tb 40 67 [.tp, .sh (eF fs), .sh (.tuple (os.map .str))] τ = some (v, τ') ∧ v = .sh (.bool true) := by
  refine call_rt (k := 39) (i := 67) rfl rfl ?_
  have hlen : 0 < fs.length := List.length_pos_iff.mpr hne
  obtain ⟨r, τ1, g1, r0, r1⟩ := draw (tb := tb) (k := 38) rfl (m := (fs.length : Int)) (by omega) (by omega) τ
  have g1 : callK tb 39 4 [.tp, .sh (.int (fs.length : Int))] τ = some (.sh (.int r), τ1) := g1
  obtain ⟨i, rfl⟩ := Int.eq_ofNat_of_zero_le r0
  have hi : i < fs.length := by omega
  have hcut := cut_at hi
  have hmem : fs[i] ∈ fs := List.getElem_mem hi
  have hb := bd _ hmem
  generalize hpp : fs[i] = p at hcut hmem hb
  have hlm : ((fs.map e1).length : Int) = (fs.length : Int) := by rw [List.length_map]
  have hix : ixV (.tuple (fs.map e1)) (.int (i : Int)) = some (.sh (e1 p)) := by
    show (L2.atI (fs.map e1) (i : Int)).map Vl.sh = _
    rw [atI_nat (v := e1 p) (by rw [List.getElem?_map, List.getElem?_eq_getElem hi, hpp]; rfl)]; rfl
  have c1 : slD (.tuple (fs.map e1)) none (some (i : Int)) = some (.sh (.tuple ((fs.take i).map e1))) := by
    show some (Vl.sh (.tuple (cutD (fs.map e1) none (some (i : Int))))) = _
    rw [cut_to, List.map_take]
  have c2 : slD (.tuple (fs.map e1)) (some ((i : Int) + 1)) none = some (.sh (.tuple ((fs.drop (i + 1)).map e1))) := by
    show some (Vl.sh (.tuple (cutD (fs.map e1) (some (((i + 1 : Nat)) : Int)) none))) = _
    rw [cut_from, List.map_drop]
  have la : (fs.take i).length ≤ 6 := by rw [List.length_take]; omega
  have lb : (fs.drop (i + 1)).length ≤ 6 := by rw [List.length_drop]; omega
  generalize fs.take i = a at hcut c1 la
  generalize fs.drop (i + 1) = b at hcut c2 lb
  refine Rt.seq (P := fun env => env = [some .tp, some (.sh (eF fs)), some (.sh (.tuple (os.map .str))), some (.sh (.int (i : Int))), none, none, none, none, none, none, none, none, none]) (Nx.one (τ' := τ1) (by
    have hh : lenV [eF fs] = some (.sh (.int (fs.length : Int))) := by unfold eF; rw [len_t, List.length_map]
    simp [startE_s, hh, g1]) rfl) fun env τ he => ?_
  subst he
  have hix : ixV (eF fs) (.int (i : Int)) = some (.sh (e1 p)) := hix
  refine Rt.seq (P := fun env => env = [some .tp, some (.sh (eF fs)), some (.sh (.tuple (os.map .str))), some (.sh (.int (i : Int))), some (.sh (.str p.1)), some (.sh (.int p.2.1)), some (.sh (.int p.2.2)), none, none, none, none, none, none]) (Nx.one (τ' := τ) (by simp [hix, e1]) rfl) fun env τ he => ?_
  subst he
  obtain ⟨l2, τ2, g2, l20, l21⟩ := draw (tb := tb) (k := 38) rfl (m := p.2.1 + 1) (by omega) (by omega) τ
  obtain ⟨h2, τ3, g3, h20, h21⟩ := draw (tb := tb) (k := 38) rfl (m := 41 - p.2.2) (by omega) (by omega) τ2
  have g2 : callK tb 39 4 [.tp, .sh (.int (p.2.1 + 1))] τ = some (.sh (.int l2), τ2) := g2
  have g3 : callK tb 39 4 [.tp, .sh (.int (41 - p.2.2))] τ2 = some (.sh (.int h2), τ3) := g3
  refine Rt.seq (P := fun env => env = [some .tp, some (.sh (eF fs)), some (.sh (.tuple (os.map .str))), some (.sh (.int (i : Int))), some (.sh (.str p.1)), some (.sh (.int p.2.1)), some (.sh (.int p.2.2)), some (.sh (e1 (p.1, l2, p.2.2 + h2))), none, none, none, none, none]) (Nx.one (τ' := τ3) (by simp [g2, g3, e1]) rfl) fun env τ he => ?_
  subst he
  have a1 := add_tt (xs := a.map e1) (ys := b.map e1) (by simp; omega)
  have a2 := add_tt (xs := a.map e1) (ys := [e1 (p.1, l2, p.2.2 + h2)]) (by simp; omega)
  have a3 := add_tt (xs := a.map e1 ++ [e1 (p.1, l2, p.2.2 + h2)]) (ys := b.map e1) (by simp; omega)
  have few : Fewer fs (a ++ b) := .out hcut rfl
  have wide : Fewer fs (a ++ (p.1, l2, p.2.2 + h2) :: b) := .wide hcut rfl rfl (by show l2 ≤ p.2.1; omega) (by show p.2.2 ≤ p.2.2 + h2; omega)
  have q1 : eF (a ++ b) = .tuple (a.map e1 ++ b.map e1) := by unfold eF; rw [List.map_append]
  have q2 : eF (a ++ (p.1, l2, p.2.2 + h2) :: b) = .tuple (a.map e1 ++ [e1 (p.1, l2, p.2.2 + h2)] ++ b.map e1) := by unfold eF; rw [List.map_append, List.map_cons]; simp
  rw [← q1] at a1
  rw [← q2] at a3
  have lw : (a ++ (p.1, l2, p.2.2 + h2) :: b).length ≤ 6 := by
    have := congrArg List.length hcut; simp at this ⊢; omega
  have lf : (a ++ b).length ≤ 6 := by
    have := congrArg List.length hcut; simp at this ⊢; omega
  have bdw : Bd (a ++ (p.1, l2, p.2.2 + h2) :: b) := fun q hq => by
    rcases List.mem_append.mp hq with h | h
    · exact bd q (by rw [hcut]; simp [h])
    · rcases List.mem_cons.mp h with rfl | h
      · exact ⟨l20, by show l2 ≤ p.2.2 + h2; omega, by show p.2.2 + h2 ≤ 40; omega⟩
      · exact bd q (by rw [hcut]; simp [h])
  have ndw := wide.names
  have nnw : fnames (a ++ (p.1, l2, p.2.2 + h2) :: b) = fnames fs := by
    rw [hcut]; unfold fnames; simp
  have hnew : (a ++ (p.1, l2, p.2.2 + h2) :: b) ≠ [] := by simp
  generalize hW : a ++ (p.1, l2, p.2.2 + h2) :: b = wd at *
  generalize hF : a ++ b = fw at *
  have c1 : slD (eF fs) none (some (i : Int)) = some (.sh (.tuple (a.map e1))) := c1
  have c2 : slD (eF fs) (some ((i : Int) + 1)) none = some (.sh (.tuple (b.map e1))) := c2
  refine Rt.seq (P := fun env => env = [some .tp, some (.sh (eF fs)), some (.sh (.tuple (os.map .str))), some (.sh (.int (i : Int))), some (.sh (.str p.1)), some (.sh (.int p.2.1)), some (.sh (.int p.2.2)), some (.sh (e1 (p.1, l2, p.2.2 + h2))), some (.sh (eF fw)), none, none, none, none]) (Nx.one (τ' := τ) (by simp [c1, c2, a1]) rfl) fun env τ he => ?_
  subst he
  refine Rt.seq (P := fun env => env = [some .tp, some (.sh (eF fs)), some (.sh (.tuple (os.map .str))), some (.sh (.int (i : Int))), some (.sh (.str p.1)), some (.sh (.int p.2.1)), some (.sh (.int p.2.2)), some (.sh (e1 (p.1, l2, p.2.2 + h2))), some (.sh (eF fw)), some (.sh (eF wd)), none, none, none]) (Nx.one (τ' := τ) (by simp [c1, c2, a2, a3]) rfl) fun env τ he => ?_
  subst he
  refine Rt.seq (P := fun env => ∃ x y z, env = [some .tp, some (.sh (eF fs)), some (.sh (.tuple (os.map .str))), some (.sh (.int (i : Int))), some (.sh (.str p.1)), some (.sh (.int p.2.1)), some (.sh (.int p.2.2)), some (.sh (e1 (p.1, l2, p.2.2 + h2))), some (.sh (eF fw)), some (.sh (eF wd)), x, y, z]) (Nx.loopI (ds := [eF wd, eF fw]) (τ1 := τ) (fun env => ∃ x y z, env = [some .tp, some (.sh (eF fs)), some (.sh (.tuple (os.map .str))), some (.sh (.int (i : Int))), some (.sh (.str p.1)), some (.sh (.int p.2.1)), some (.sh (.int p.2.2)), some (.sh (e1 (p.1, l2, p.2.2 + h2))), some (.sh (eF fw)), some (.sh (eF wd)), x, y, z]) (by simp) ⟨_, _, _, rfl⟩ (fun d env τ hd hI => ?_) fun env hI => hI) fun env τ he => ?_
  · obtain ⟨x, y, z, rfl⟩ := hI
    obtain ⟨gs, rfl, few, hgl⟩ : ∃ gs, d = eF gs ∧ Fewer fs gs ∧ gs.length ≤ 6 := by
      simp at hd
      rcases hd with rfl | rfl
      · exact ⟨_, rfl, wide, lw⟩
      · exact ⟨_, rfl, few, lf⟩
    refine ⟨_, rfl, ?_⟩
    by_cases hg : gs = []
    · subst hg
      have hn : neV (eF []) (.tuple []) = some (.sh (.bool false)) := ne_lk (lk_eF [] (by simp)) (by omega)
      exact Nx.ifF (τ1 := τ) (by simp [hn]) (.nil ⟨_, _, _, rfl⟩)
    · have hn : neV (eF gs) (.tuple []) = some (.sh (.bool true)) := ne_of (by unfold eF; rw [nb]; exact nbs_e1 gs) rfl (Nat.le_trans (Nat.min_le_right _ _) (by decide)) (by unfold eF; simpa using hg)
      have m1 : ∀ τ, callK tb 39 41 [.sh (eF gs)] τ = some (.sh (.int (mostI gs)), τ) := fun τ => most_s (k := 36) rfl rfl rfl (by omega) τ
      have m2 : ∀ τ, callK tb 39 41 [.sh (eF fs)] τ = some (.sh (.int (mostI fs)), τ) := fun τ => most_s (k := 36) rfl rfl rfl (by omega) τ
      have l1 : ∀ τ, callK tb 39 49 [.sh (eF gs)] τ = some (.sh (.int (leastI gs)), τ) := fun τ => least_s (k := 37) rfl rfl rfl hg τ
      have l2' : ∀ τ, callK tb 39 49 [.sh (eF fs)] τ = some (.sh (.int (leastI fs)), τ) := fun τ => least_s (k := 37) rfl rfl rfl hne τ
      obtain ⟨L, hat, hL, hmin⟩ := athome_s (tb := tb) rfl hl
      obtain ⟨M, hat2, hM, hmin2⟩ := athome_s (tb := tb) (fs := gs) rfl hgl
      have hat : ∀ τ, callK tb 39 59 [.sh (eF fs)] τ = some (.sh (tupS L), τ) := fun τ => hat 38 τ
      have hat2 : ∀ τ, callK tb 39 59 [.sh (eF gs)] τ = some (.sh (tupS M), τ) := fun τ => hat2 38 τ
      have hlm := home_le few hmin2 hL
      have q1 := few.most
      have q2 := few.least hg
      have len1 : lenV [tupS M] = some (.sh (.int (M.length : Int))) := by unfold tupS; rw [len_t, List.length_map]
      have len2 : lenV [tupS L] = some (.sh (.int (L.length : Int))) := by unfold tupS; rw [len_t, List.length_map]
      have z1 : ∀ τ, callK tb 39 40 [.sh (eF gs)] τ = some (.ow ((mostL gs).map .int), τ) := fun τ => mostL_s (k := 37) rfl rfl (by omega) τ
      have z2 : ∀ τ, callK tb 39 40 [.sh (eF fs)] τ = some (.ow ((mostL fs).map .int), τ) := fun τ => mostL_s (k := 37) rfl rfl (by omega) τ
      refine Nx.ifT (τ1 := τ) (by simp [hn]) ?_
      refine Nx.seq (Nx.chk (P := fun env => env = _) (τ1 := τ) (by
        have a1 : ¬ mostI fs < mostI gs := by omega
        have a2 : ¬ leastI fs < leastI gs := by omega
        simp [m1, m2, l1, l2', a1, a2]) rfl) fun env τ he => ?_
      subst he
      refine Nx.seq (Nx.chk (P := fun env => env = _) (τ1 := τ) (by
        have a1 : ¬ (L.length : Int) < (M.length : Int) := by omega
        simp [hat, hat2, len1, len2, a1]) rfl) fun env τ he => ?_
      subst he
      have hz : ∀ (env : Ev) τ, env.length = 13 → compL (gT [11, 12]) (tst (dBin gtV (dVar 11) (dVar 12))) (dK (.int 1)) (zipD ((mostL gs).map .int) ((mostL fs).map .int)) env τ = some ([], τ) := fun env τ he => by
        rw [zipD_ints]
        have := compL_enc (b := gT [11, 12]) (c := tst (dBin gtV (dVar 11) (dVar 12))) (e := dK (.int 1)) (env := env) (fun p : Int × Int => PyData.tuple [.int p.1, .int p.2]) (fun _ => false) (fun _ => .none) (xs := (mostL gs).zip (mostL fs)) (fun q hq => by
          refine ⟨(env.set 11 (some (.sh (.int q.1)))).set 12 (some (.sh (.int q.2))), rfl, fun τ => ⟨?_, fun z => by cases z⟩⟩
          have e1 : ((env.set 11 (some (.sh (.int q.1)))).set 12 (some (.sh (.int q.2))))[11]? = some (some (.sh (.int q.1))) := by
            rw [List.getElem?_set_ne (by decide), List.getElem?_set_self (by omega)]
          have e2 : ((env.set 11 (some (.sh (.int q.1)))).set 12 (some (.sh (.int q.2))))[12]? = some (some (.sh (.int q.2))) := List.getElem?_set_self (by rw [List.length_set]; omega)
          have : q.1 ≤ q.2 := by
            unfold mostL at hq
            rw [List.zip_map'] at hq
            obtain ⟨j, _, rfl⟩ := List.mem_map.mp hq
            have := few.lesser (j : Int)
            show 2 * lesserI gs (j : Int) ≤ 2 * lesserI fs (j : Int)
            omega
          have a1 : ¬ q.2 < q.1 := by omega
          simp [e1, e2, a1]) τ
        rw [this]
        simp
      have en : neV (.list []) (.list []) = some (.sh (.bool false)) := ne_ints [] []
      exact Nx.chk (P := fun env => ∃ x y z, env = _) (τ1 := τ) (by
        have hz2 := hz [some .tp, some (.sh (eF fs)), some (.sh (.tuple (os.map .str))), some (.sh (.int (i : Int))), some (.sh (.str p.1)), some (.sh (.int p.2.1)), some (.sh (.int p.2.2)), some (.sh (e1 (p.1, l2, p.2.2 + h2))), some (.sh (eF fw)), some (.sh (eF wd)), some (.sh (eF gs)), none, none] τ rfl
        generalize (mostL gs).map PyData.int = A at z1 hz2
        generalize (mostL fs).map PyData.int = B at z2 hz2
        try simp at hz2
        simp [z1, z2, hz2, en]) ⟨_, _, _, rfl⟩
  · obtain ⟨x, y, z, rfl⟩ := he
    have hv : ∀ n ∈ os, n ∈ fnames wd := fun n hn => by rw [nnw]; exact hp.mem_iff.mp hn
    have ndw2 : (fnames wd).Nodup := by rw [nnw]; exact nd
    have hon : os ≠ [] := fun e => by
      have := hp.length_eq
      unfold fnames at this
      rw [e, List.length_map] at this
      simp at this; omega
    have hol : os.length ≤ 6 := by rw [hp.length_eq]; unfold fnames; rw [List.length_map]; exact hl
    have ea : ∀ τ, callK tb 39 28 [.sh (eF wd), .sh (.tuple (os.map .str))] τ = some (.sh (.int (eachD wd os)), τ) := fun τ => each_s (k := 35) rfl rfl rfl rfl rfl ndw2 hv hon (by omega) (.inr rfl) τ
    have m2 : ∀ τ, callK tb 39 41 [.sh (eF fs)] τ = some (.sh (.int (mostI fs)), τ) := fun τ => most_s (k := 36) rfl rfl rfl (by omega) τ
    have w1 : ∀ τ, callK tb 39 60 [.sh (eF wd)] τ = some (.sh (.int (widI wd)), τ) := fun τ => wid_s (k := 37) rfl rfl rfl hnew τ
    have w2 : ∀ τ, callK tb 39 60 [.sh (eF fs)] τ = some (.sh (.int (widI fs)), τ) := fun τ => wid_s (k := 37) rfl rfl rfl hne τ
    have q1 := each_most bdw ndw2 (os := os) (by rw [nnw]; exact hp)
    have q2 := wide.most
    have q3 := wide.wid hnew
    have q4 : eachD wd os ≤ mostI fs := by omega
    exact Rt.one (τ' := τ) (by simp [ea, m2, w1, w2, q4, q3]) rfl
theorem names6_len : ∀ n ∈ names6, n.length ≤ 100 := by decide +kernel
set_option maxHeartbeats 1000000 in
theorem law_pure (sc : List Int) (_ : sc.length ≤ 63) : ∃ τ, bl (callK tb 40) (lawE 12) ⟨sc, 0, 0⟩ = some (.rt (.sh (.bool true)), τ) := by
  refine law_rt (Rt.seq (P := fun _ => True) (Nx.loopI (ds := rngL 0 3) (fun env => ∃ a b c d e f g h i j, env = [none, some .tp, a, b, c, d, e, f, g, h, i, j]) rfl ⟨_, _, _, _, _, _, _, _, _, _, rfl⟩ (fun t env τ ht hI => ?_) fun _ _ => trivial) fun env τ _ => ?_)
  · obtain ⟨a, b, c, d, e, f, g, h, i, j, rfl⟩ := hI
    refine ⟨_, rfl, ?_⟩
    obtain ⟨fs, τ1, g1, good⟩ := folk_s (tb := tb) (k := 38) rfl rfl (m := 6) (by omega) τ
    have g1 : callK tb 40 12 [.tp, .sh (.int 6)] τ = some (.sh (eF fs), τ1) := g1
    have nd := good.nd
    have bd : Bd fs := good.bd
    have wf := bd.wf
    have h1 := good.l1
    have h2 := good.l2
    have hne : fs ≠ [] := fun e => by rw [e] at h1; simp at h1
    have hneO : ovF fs ≠ [] := by unfold ovF; simpa using hne
    have hlO : (ovF fs).length ≤ 6 := by unfold ovF; rw [List.length_map]; exact h2
    have ndO : (fnames (ovF fs)).Nodup := by rw [ov_names]; exact nd
    have bdO := ov_bd bd
    refine Nx.seq (P := fun env => env = [none, some .tp, some (.sh t), some (.sh (eF fs)), c, d, e, f, g, h, i, j]) (Nx.one (τ' := τ1) (by simp [g1]) rfl) fun env τ he => ?_
    subst he
    obtain ⟨os, τ2, g2, hp⟩ := lorder_s (tb := tb) (k := 37) rfl rfl rfl (fun p : Str × Int × Int => p.1) (fun p => [.int p.2.1, .int p.2.2]) fs (by omega) τ
    have g2 : callK tb 40 31 [.tp, .sh (eF fs)] τ = some (.sh (.tuple (os.map .str)), τ2) := g2
    have hp : os.Perm (fnames fs) := hp
    have hv : ∀ n ∈ os, n ∈ fnames fs := fun n hn => hp.mem_iff.mp hn
    have hol : os.length ≤ 6 := by rw [hp.length_eq]; unfold fnames; rw [List.length_map]; exact h2
    have hon : os ≠ [] := fun e => by
      have := hp.length_eq
      unfold fnames at this
      rw [e, List.length_map] at this
      simp at this; omega
    have hvO : ∀ n ∈ os, n ∈ fnames (ovF fs) := by rw [ov_names]; exact hv
    have ov := over_s fs
    refine Nx.seq (P := fun env => env = [none, some .tp, some (.sh t), some (.sh (eF fs)), some (.sh (.tuple (os.map .str))), some (.sh (eF (ovF fs))), e, f, g, h, i, j]) (Nx.one (τ' := τ2) (by simp [g2, ov]) rfl) fun env τ he => ?_
    subst he
    -- crossed, shares
    have cO : ∀ τ, callK tb 40 36 [.sh (eF (ovF fs)), .sh (.tuple (os.map .str))] τ = some (.ow ((cycL fs os).reverse.map .int), τ) := fun τ => by
      have := crossed_s (tb := tb) (k := 35) (fs := ovF fs) rfl rfl rfl rfl rfl ndO hvO hon (by omega) (.inr rfl) τ
      rw [crsL_cyc bdO.wf hvO, cycL_ov wf hv] at this
      exact this
    have cF : ∀ τ, callK tb 40 36 [.sh (eF fs), .sh (.tuple (os.map .str))] τ = some (.ow ((cycL fs os).map .int), τ) := fun τ => by
      have := crossed_s (tb := tb) (k := 35) (fs := fs) rfl rfl rfl rfl rfl nd hv hon (by omega) (.inr rfl) τ
      rw [crsL_cyc wf hv] at this
      exact this
    have sO : ∀ τ, callK tb 40 37 [.sh (eF (ovF fs)), .sh (.tuple (os.map .str))] τ = some (.ow ((shareL (ld fs (endAt fs 0 os) os)).map e2), τ) := fun τ => by
      have := shares_s (tb := tb) (k := 35) (fs := ovF fs) rfl rfl rfl rfl rfl ndO hvO hon (by omega) (.inr rfl) τ
      rw [share_ov bd hv] at this
      exact this
    have sF : ∀ τ, callK tb 40 37 [.sh (eF fs), .sh (.tuple (os.map .str))] τ = some (.ow ((shareL (ld fs (endAt fs 0 os) os)).map e2), τ) := fun τ => shares_s (tb := tb) (k := 35) (fs := fs) rfl rfl rfl rfl rfl nd hv hon (by omega) (.inr rfl) τ
    have n1 : neV (.list ((cycL fs os).map PyData.int).reverse) (.list ((cycL fs os).map PyData.int).reverse) = some (.sh (.bool false)) := by
      rw [← List.map_reverse, ne_ints]; simp
    have hsl : (shareL (ld fs (endAt fs 0 os) os)).length ≤ 6 := by
      unfold shareL
      rw [List.length_mergeSort, List.length_map, ld_len]; exact hol
    have n2 := ne_lk (lk_e2 _ (show (shareL (ld fs (endAt fs 0 os) os)).length ≤ 16777216 by omega)) (by omega)
    generalize (shareL (ld fs (endAt fs 0 os) os)).map e2 = SH at sO sF n2
    refine Nx.seq (Nx.chk (P := fun env => env = _) (τ1 := τ) (by simp [cO, cF, sO, sF, dRev, n1, n2]) rfl) fun env τ he => ?_
    subst he
    -- most crossed, least
    have mO : ∀ τ, callK tb 40 40 [.sh (eF (ovF fs))] τ = some (.ow ((mostL fs).reverse.map .int), τ) := fun τ => by
      have := mostL_s (tb := tb) (k := 38) (fs := ovF fs) rfl rfl (by omega) τ
      rw [mostL_ov wf] at this
      exact this
    have mF : ∀ τ, callK tb 40 40 [.sh (eF fs)] τ = some (.ow ((mostL fs).map .int), τ) := fun τ => mostL_s (tb := tb) (k := 38) rfl rfl (by omega) τ
    have lO : ∀ τ, callK tb 40 49 [.sh (eF (ovF fs))] τ = some (.sh (.int (leastI fs)), τ) := fun τ => by
      have := least_s (tb := tb) (k := 38) rfl rfl rfl hneO τ
      rw [least_ov hne] at this
      exact this
    have lF : ∀ τ, callK tb 40 49 [.sh (eF fs)] τ = some (.sh (.int (leastI fs)), τ) := fun τ => least_s (tb := tb) (k := 38) rfl rfl rfl hne τ
    have n3 : neV (.list ((mostL fs).map PyData.int).reverse) (.list ((mostL fs).map PyData.int).reverse) = some (.sh (.bool false)) := by
      rw [← List.map_reverse, ne_ints]; simp
    refine Nx.seq (Nx.chk (P := fun env => env = _) (τ1 := τ) (by simp [mO, mF, lO, lF, dRev, n3]) rfl) fun env τ he => ?_
    subst he
    -- amounts, onlookers
    have aO : ∀ τ, callK tb 40 52 [.sh (eF (ovF fs))] τ = some (.ow ((amtL fs).map .int), τ) := fun τ => by
      have := amounts_s (tb := tb) (k := 35) rfl rfl rfl rfl rfl rfl rfl rfl ndO hneO hlO τ
      rw [amt_ov bd hne] at this
      exact this
    have aF : ∀ τ, callK tb 40 52 [.sh (eF fs)] τ = some (.ow ((amtL fs).map .int), τ) := fun τ => amounts_s (tb := tb) (k := 35) rfl rfl rfl rfl rfl rfl rfl rfl nd hne h2 τ
    have oO : ∀ τ, callK tb 40 55 [.sh (eF (ovF fs))] τ = some (.sh (.tuple ((onlk fs).map .str)), τ) := fun τ => by
      have := onlk_s (tb := tb) (k := 37) rfl rfl rfl rfl rfl (ovF fs) τ
      rw [onlk_ov] at this
      exact this
    have oF : ∀ τ, callK tb 40 55 [.sh (eF fs)] τ = some (.sh (.tuple ((onlk fs).map .str)), τ) := fun τ => onlk_s (tb := tb) (k := 37) rfl rfl rfl rfl rfl fs τ
    have hok : (onlk fs).length ≤ 6 := by
      have := (List.filter_sublist (p := fun n => decide (mostBy fs n = 0)) (l := fnames fs)).length_le
      have q : (fnames fs).length = fs.length := List.length_map _
      unfold onlk; omega
    have n4 : neV (.list ((amtL fs).map .int)) (.list ((amtL fs).map .int)) = some (.sh (.bool false)) := by rw [ne_ints]; simp
    have n5 := ne_lk (lk_strs (onlk fs) (by omega)).2 (by omega)
    refine Nx.seq (Nx.chk (P := fun env => env = _) (τ1 := τ) (by
      generalize (onlk fs).map PyData.str = O at oO oF n5
      simp [aO, aF, oO, oF, n4, n5]) rfl) fun env τ he => ?_
    subst he
    -- at home, widened
    obtain ⟨L, hat, hL, hmin⟩ := athome_s (tb := tb) rfl h2
    obtain ⟨M, hat2, hM, hmin2⟩ := athome_s (tb := tb) (fs := ovF fs) rfl hlO
    have hLM : L = M := home_one (gs := ovF fs) (fun i hi => ⟨40 - i, by omega, by rw [outL_ov]; congr 1; omega⟩) (fun i hi => ⟨40 - i, by omega, by rw [outL_ov]; congr 1; omega⟩) hL hmin hM hmin2
    subst hLM
    have hat : ∀ τ, callK tb 40 59 [.sh (eF fs)] τ = some (.sh (tupS L), τ) := fun τ => hat 39 τ
    have hat2 : ∀ τ, callK tb 40 59 [.sh (eF (ovF fs))] τ = some (.sh (tupS L), τ) := fun τ => hat2 39 τ
    have hLl : L.length ≤ 16777216 := by
      obtain ⟨i, _, rfl⟩ := hL
      have a1 := (outL_sub fs (i : Int)).length_le
      have a2 : (fnames fs).length = fs.length := List.length_map _
      omega
    have n6 : neV (tupS L) (tupS L) = some (.sh (.bool false)) := ne_lk (lk_strs L hLl).2 (by omega)
    have wO : ∀ τ, callK tb 40 60 [.sh (eF (ovF fs))] τ = some (.sh (.int (widI fs)), τ) := fun τ => by
      have := wid_s (tb := tb) (k := 38) rfl rfl rfl hneO τ
      rw [wid_ov hne] at this
      exact this
    have wF : ∀ τ, callK tb 40 60 [.sh (eF fs)] τ = some (.sh (.int (widI fs)), τ) := fun τ => wid_s (tb := tb) (k := 38) rfl rfl rfl hne τ
    refine Nx.seq (Nx.chk (P := fun env => env = _) (τ1 := τ) (by simp [hat, hat2, n6, wO, wF]) rfl) fun env τ he => ?_
    subst he
    -- all degrees put on
    have hmx : 0 ≤ maxI (fs.map fun p => p.2.2) ∧ maxI (fs.map fun p => p.2.2) ≤ 40 := by
      have := maxI_mem (ns := fs.map fun p => p.2.2) (by simpa using hne)
      obtain ⟨p, hp, e⟩ := List.mem_map.mp this
      have := bd p hp
      omega
    obtain ⟨by', τ3, g3, b0, b1⟩ := draw (tb := tb) (k := 39) rfl (m := 41 - maxI (fs.map fun p => p.2.2)) (by omega) (by omega) τ
    have hby : ∀ p ∈ fs, p.2.2 + by' ≤ 40 := fun p hp => by
      have := maxI_le (List.mem_map.mpr ⟨p, hp, rfl⟩ : p.2.2 ∈ fs.map fun p => p.2.2)
      omega
    have hmc : ∀ τ, compL (gT [7, 8, 9]) yes (dVar 9) (fs.map e1) [none, some .tp, some (.sh t), some (.sh (eF fs)), some (.sh (.tuple (os.map .str))), some (.sh (eF (ovF fs))), e, none, none, none, i, j] τ = some ((fs.map fun p => p.2.2).map .int, τ) := fun τ => by
      have := compL_encM (b := gT [7, 8, 9]) (e := dVar 9) (env := [none, some .tp, some (.sh t), some (.sh (eF fs)), some (.sh (.tuple (os.map .str))), some (.sh (eF (ovF fs))), e, none, none, none, i, j]) e1 (fun p => .int p.2.2) (xs := fs) (fun p _ => ⟨_, rfl, fun τ => rfl⟩) τ
      rw [this, List.map_map]; rfl
    have hmv := maxL_v (ns := fs.map fun p => p.2.2) (by simpa using hne)
    have heF : eF fs = .tuple (fs.map e1) := rfl
    refine Nx.seq (P := fun env => env = [none, some .tp, some (.sh t), some (.sh (eF fs)), some (.sh (.tuple (os.map .str))), some (.sh (eF (ovF fs))), some (.sh (.int by')), f, g, h, i, j]) (Nx.one (τ' := τ3) (by
      generalize (fs.map fun p => p.2.2).map PyData.int = hs at hmc hmv
      rw [heF] at hmc ⊢
      generalize fs.map e1 = ds at hmc
      try simp at hmc
      simp [hmc, hmv, g3]) rfl) fun env τ he => ?_
    subst he
    have hnm : ∀ n ∈ fnames fs, n.length ≤ 100 := fun n hn => by
      rw [good.nm] at hn
      exact names6_len n (List.mem_of_mem_take hn)
    have hg := higher_s fs by' [] (fun p hp => hnm p.1 (List.mem_map.mpr ⟨p, hp, rfl⟩)) τ none (some .tp) (some (.sh t)) (some (.sh (.tuple (os.map .str)))) (some (.sh (eF (ovF fs)))) i j
    refine Nx.seq (P := fun env => env = [none, some .tp, some (.sh t), some (.sh (eF fs)), some (.sh (.tuple (os.map .str))), some (.sh (eF (ovF fs))), some (.sh (.int by')), f, g, h, some (.sh (eF (shF by' fs))), j]) (Nx.one (τ' := τ) (by
      have : eF (shF by' fs) = .tuple ((shF by' fs).map e1) := rfl
      rw [this]
      generalize (shF by' fs).map e1 = out at hg
      rw [heF] at hg ⊢
      generalize fs.map e1 = ds at hg
      try simp at hg
      simp [hg]) rfl) fun env τ he => ?_
    subst he
    have hc := called_s os [none, some .tp, some (.sh t), some (.sh (eF fs)), some (.sh (.tuple (os.map .str))), some (.sh (eF (ovF fs))), some (.sh (.int by')), none, g, h, some (.sh (eF (shF by' fs))), j] (by simp) (fun n hn => hnm n (hv n hn)) τ
    refine Nx.seq (P := fun env => env = [none, some .tp, some (.sh t), some (.sh (eF fs)), some (.sh (.tuple (os.map .str))), some (.sh (eF (ovF fs))), some (.sh (.int by')), f, g, h, some (.sh (eF (shF by' fs))), some (.sh (.tuple ((os.map xN).map .str)))]) (Nx.one (τ' := τ) (by
      generalize (os.map xN).map PyData.str = out at hc
      generalize os.map PyData.str = ds at hc
      try simp at hc
      simp [hc]) rfl) fun env τ he => ?_
    subst he
    have hneS : shF by' fs ≠ [] := by unfold shF; simpa using hne
    have hlS : (shF by' fs).length ≤ 6 := by unfold shF; rw [List.length_map]; exact h2
    have ndS := sh_nd (b := by') nd
    have hvS : ∀ n ∈ os.map xN, n ∈ fnames (shF by' fs) := fun n hn => by
      rw [sh_names]
      obtain ⟨m, hm, rfl⟩ := List.mem_map.mp hn
      exact List.mem_map.mpr ⟨m, hv m hm, rfl⟩
    have eS : ∀ τ, callK tb 40 28 [.sh (eF (shF by' fs)), .sh (.tuple ((os.map xN).map .str))] τ = some (.sh (.int (eachD fs os)), τ) := fun τ => by
      have := each_s (tb := tb) (k := 36) (fs := shF by' fs) (os := os.map xN) rfl rfl rfl rfl rfl ndS hvS (by simpa using hon) (by rw [List.length_map]; omega) (.inr rfl) τ
      rw [each_sh bd b0 hby (by omega) hv] at this
      exact this
    have eF' : ∀ τ, callK tb 40 28 [.sh (eF fs), .sh (.tuple (os.map .str))] τ = some (.sh (.int (eachD fs os)), τ) := fun τ => each_s (tb := tb) (k := 36) rfl rfl rfl rfl rfl nd hv hon (by omega) (.inr rfl) τ
    have aS : ∀ τ, callK tb 40 52 [.sh (eF (shF by' fs))] τ = some (.ow ((amtL fs).map .int), τ) := fun τ => by
      have := amounts_s (tb := tb) (k := 35) rfl rfl rfl rfl rfl rfl rfl rfl ndS hneS hlS τ
      rw [amt_sh bd hne b0 hby (by omega)] at this
      exact this
    refine Nx.seq (Nx.chk (P := fun env => env = _) (τ1 := τ) (by
      generalize (os.map xN).map PyData.str = X1 at eS
      generalize os.map PyData.str = X2 at eF'
      simp [eS, eF', aS, aF, n4]) rfl) fun env τ he => ?_
    subst he
    have mS : ∀ τ, callK tb 40 41 [.sh (eF (shF by' fs))] τ = some (.sh (.int (mostI fs)), τ) := fun τ => by
      have := most_s (tb := tb) (k := 37) (fs := shF by' fs) rfl rfl rfl (by omega) τ
      rw [most_sh bd b0 hby] at this
      exact this
    have mF' : ∀ τ, callK tb 40 41 [.sh (eF fs)] τ = some (.sh (.int (mostI fs)), τ) := fun τ => most_s (tb := tb) (k := 37) rfl rfl rfl (by omega) τ
    have oS : ∀ τ, callK tb 40 55 [.sh (eF (shF by' fs))] τ = some (.sh (.tuple (((onlk fs).map xN).map .str)), τ) := fun τ => by
      have := onlk_s (tb := tb) (k := 37) rfl rfl rfl rfl rfl (shF by' fs) τ
      rw [onlk_sh] at this
      exact this
    have oc := called_s (onlk fs) [none, some .tp, some (.sh t), some (.sh (eF fs)), some (.sh (.tuple (os.map .str))), some (.sh (eF (ovF fs))), some (.sh (.int by')), none, g, h, some (.sh (eF (shF by' fs))), some (.sh (.tuple ((os.map xN).map .str)))] (by simp) (fun n hn => hnm n (List.mem_filter.mp hn).1) τ
    have n7 := ne_lk (lk_strs ((onlk fs).map xN) (by rw [List.length_map]; omega)).2 (by omega)
    refine Nx.seq (Nx.chk (P := fun env => env = _) (τ1 := τ) (by
      generalize ((onlk fs).map xN).map PyData.str = Y1 at oS oc n7
      generalize (onlk fs).map PyData.str = Y2 at oF oc
      generalize (os.map xN).map PyData.str = X1 at oc
      generalize os.map PyData.str = X2 at oc
      try simp at oc
      simp [mS, mF', oS, oF, oc, n7]) rfl) fun env τ he => ?_
    subst he
    obtain ⟨v, τ5, g5, rfl⟩ := changed_s bd nd hne h2 hp τ
    exact Nx.chk (P := fun env => ∃ a b c d e f g h i j, env = _) (τ1 := τ5) (by simp [g5]) ⟨_, _, _, _, _, _, _, _, _, _, rfl⟩
  · exact Rt.one (τ' := τ) (by simp) rfl
end Pv
namespace Pv
open PySem L2 PySem.Spec PyProof.Rows
def topS (i : Nat) : Stmt := PySem.Challenge.pw_warmwheel_k10_whole_scale_turned_and_fol.main.body.getD i (.Pass ⟨0, 0, 0, 0⟩)
abbrev s_suited : Stmt := topS 2
theorem sc_suited : FnScope ["one", "degree", "name", "low", "high"] ["one", "degree"] (defScope s_suited) := ⟨rfl, rfl, rfl, by decide +kernel, rfl, by decide +kernel, by decide +kernel⟩
abbrev s_settings : Stmt := topS 3
theorem sc_settings : FnScope ["folk", "degree", "visits", "by_name", "one", "found", "name"] ["folk", "degree", "visits"] (defScope s_settings) := ⟨rfl, rfl, rfl, by decide +kernel, rfl, by decide +kernel, by decide +kernel⟩
abbrev s_turned : Stmt := topS 4
theorem sc_turned : FnScope ["folk", "degree", "visits", "rows", "one", "other"] ["folk", "degree", "visits"] (defScope s_turned) := ⟨rfl, rfl, rfl, by decide +kernel, rfl, by decide +kernel, by decide +kernel⟩
abbrev s_first_day : Stmt := topS 6
theorem sc_first_day : FnScope ["folk", "degree", "order"] ["folk", "degree", "order"] (defScope s_first_day) := ⟨rfl, rfl, rfl, by decide +kernel, rfl, by decide +kernel, by decide +kernel⟩
abbrev s_each_day : Stmt := topS 7
theorem sc_each_day : FnScope ["folk", "order"] ["folk", "order"] (defScope s_each_day) := ⟨rfl, rfl, rfl, by decide +kernel, rfl, by decide +kernel, by decide +kernel⟩
abbrev s_moves : Stmt := topS 8
theorem sc_moves : FnScope ["folk", "order", "here", "found", "name", "there"] ["folk", "order"] (defScope s_moves) := ⟨rfl, rfl, rfl, by decide +kernel, rfl, by decide +kernel, by decide +kernel⟩
abbrev s_crossed : Stmt := topS 9
theorem sc_crossed : FnScope ["folk", "order", "rows", "found", "step", "name", "one", "other"] ["folk", "order"] (defScope s_crossed) := ⟨rfl, rfl, rfl, by decide +kernel, rfl, by decide +kernel, by decide +kernel⟩
abbrev s_shares : Stmt := topS 10
theorem sc_shares : FnScope ["folk", "order", "name", "one", "other"] ["folk", "order"] (defScope s_shares) := ⟨rfl, rfl, rfl, by decide +kernel, rfl, by decide +kernel, by decide +kernel⟩
abbrev s_names_of : Stmt := topS 12
theorem sc_names_of : FnScope ["folk", "one"] ["folk"] (defScope s_names_of) := ⟨rfl, rfl, rfl, by decide +kernel, rfl, by decide +kernel, by decide +kernel⟩
abbrev s_greatest_low : Stmt := topS 13
theorem sc_greatest_low : FnScope ["folk", "name", "low", "high"] ["folk"] (defScope s_greatest_low) := ⟨rfl, rfl, rfl, by decide +kernel, rfl, by decide +kernel, by decide +kernel⟩
abbrev s_least_high : Stmt := topS 14
theorem sc_least_high : FnScope ["folk", "name", "low", "high"] ["folk"] (defScope s_least_high) := ⟨rfl, rfl, rfl, by decide +kernel, rfl, by decide +kernel, by decide +kernel⟩
abbrev s_lesser_side : Stmt := topS 15
theorem sc_lesser_side : FnScope ["folk", "step", "below", "name", "low", "high", "above"] ["folk", "step"] (defScope s_lesser_side) := ⟨rfl, rfl, rfl, by decide +kernel, rfl, by decide +kernel, by decide +kernel⟩
abbrev s_most_crossed : Stmt := topS 16
theorem sc_most_crossed : FnScope ["folk", "step"] ["folk"] (defScope s_most_crossed) := ⟨rfl, rfl, rfl, by decide +kernel, rfl, by decide +kernel, by decide +kernel⟩
abbrev s_most : Stmt := topS 17
theorem sc_most : FnScope ["folk"] ["folk"] (defScope s_most) := ⟨rfl, rfl, rfl, by decide +kernel, rfl, by decide +kernel, by decide +kernel⟩
abbrev s_least : Stmt := topS 18
theorem sc_least : FnScope ["folk"] ["folk"] (defScope s_least) := ⟨rfl, rfl, rfl, by decide +kernel, rfl, by decide +kernel, by decide +kernel⟩
abbrev s_orders : Stmt := topS 19
theorem sc_orders : FnScope ["names", "found", "name", "row", "at"] ["names"] (defScope s_orders) := ⟨rfl, rfl, rfl, by decide +kernel, rfl, by decide +kernel, by decide +kernel⟩
abbrev s_amounts : Stmt := topS 20
theorem sc_amounts : FnScope ["folk", "order"] ["folk"] (defScope s_amounts) := ⟨rfl, rfl, rfl, by decide +kernel, rfl, by decide +kernel, by decide +kernel⟩
abbrev s_most_by : Stmt := topS 21
theorem sc_most_by : FnScope ["folk", "name", "one", "row", "others"] ["folk", "name"] (defScope s_most_by) := ⟨rfl, rfl, rfl, by decide +kernel, rfl, by decide +kernel, by decide +kernel⟩
abbrev s_onlookers : Stmt := topS 22
theorem sc_onlookers : FnScope ["folk", "name"] ["folk"] (defScope s_onlookers) := ⟨rfl, rfl, rfl, by decide +kernel, rfl, by decide +kernel, by decide +kernel⟩
abbrev s_at_home : Stmt := topS 24
theorem sc_at_home : FnScope ["folk", "rows", "degree", "out", "name", "low", "high"] ["folk"] (defScope s_at_home) := ⟨rfl, rfl, rfl, by decide +kernel, rfl, by decide +kernel, by decide +kernel⟩
abbrev s_widened : Stmt := topS 25
theorem sc_widened : FnScope ["folk"] ["folk"] (defScope s_widened) := ⟨rfl, rfl, rfl, by decide +kernel, rfl, by decide +kernel, by decide +kernel⟩
abbrev s__law_draw : Stmt := topS 27
theorem sc__law_draw : FnScope ["tape", "many", "prime", "cell", "found"] ["tape", "many"] (defScope s__law_draw) := ⟨rfl, rfl, rfl, by decide +kernel, rfl, by decide +kernel, by decide +kernel⟩
abbrev s__law_any_order : Stmt := topS 28
theorem sc__law_any_order : FnScope ["tape", "many", "found", "k"] ["tape", "many"] (defScope s__law_any_order) := ⟨rfl, rfl, rfl, by decide +kernel, rfl, by decide +kernel, by decide +kernel⟩
abbrev s__law_folk : Stmt := topS 29
theorem sc__law_folk : FnScope ["tape", "size", "wide", "long", "begin", "found", "name", "low"] ["tape", "size"] (defScope s__law_folk) := ⟨rfl, rfl, rfl, by decide +kernel, rfl, by decide +kernel, by decide +kernel⟩
abbrev s__law_order : Stmt := topS 30
theorem sc__law_order : FnScope ["tape", "folk", "at"] ["tape", "folk"] (defScope s__law_order) := ⟨rfl, rfl, rfl, by decide +kernel, rfl, by decide +kernel, by decide +kernel⟩
abbrev s__law_turned_over : Stmt := topS 31
theorem sc__law_turned_over : FnScope ["folk", "name", "low", "high"] ["folk"] (defScope s__law_turned_over) := ⟨rfl, rfl, rfl, by decide +kernel, rfl, by decide +kernel, by decide +kernel⟩
abbrev s__law_changed_right : Stmt := topS 32
theorem sc__law_changed_right : FnScope ["tape", "folk", "order", "at", "name", "low", "high", "one", "fewer", "wide", "other", "a", "b"] ["tape", "folk", "order"] (defScope s__law_changed_right) := ⟨rfl, rfl, rfl, by decide +kernel, rfl, by decide +kernel, by decide +kernel⟩
abbrev s_law : Stmt := topS 33
theorem sc_law : FnScope ["script", "tape", "turn", "folk", "order", "over", "by", "name", "low", "high", "higher", "called"] ["script"] (defScope s_law) := ⟨rfl, rfl, rfl, by decide +kernel, rfl, by decide +kernel, by decide +kernel⟩
structure Bn (mg : Str → Option Value) : Prop where
  m_abs : mg "abs" = none
  m_len : mg "len" = none
  m_list : mg "list" = none
  m_max : mg "max" = none
  m_min : mg "min" = none
  m_range : mg "range" = none
  m_sorted : mg "sorted" = none
  m_sum : mg "sum" = none
  m_tuple : mg "tuple" = none
  m_zip : mg "zip" = none
  g_TOP : ∃ t, mg "TOP" = some (.int 40 t)
structure All (P : Program) (w : World) (K : PySem.W.Frag) (mg : Str → Option Value) (base : Heap) (k : Nat) : Prop where
  h_suited : Has P w K mg base k "suited" 2 (callK tb k 15)
  h_settings : Has P w K mg base k "settings" 3 (callK tb k 16)
  h_turned : Has P w K mg base k "turned" 3 (callK tb k 17)
  h_first_day : Has P w K mg base k "first_day" 3 (callK tb k 26)
  h_each_day : Has P w K mg base k "each_day" 2 (callK tb k 28)
  h_moves : Has P w K mg base k "moves" 2 (callK tb k 35)
  h_crossed : Has P w K mg base k "crossed" 2 (callK tb k 36)
  h_shares : Has P w K mg base k "shares" 2 (callK tb k 37)
  h_names_of : Has P w K mg base k "names_of" 1 (callK tb k 46)
  h_greatest_low : Has P w K mg base k "greatest_low" 1 (callK tb k 47)
  h_least_high : Has P w K mg base k "least_high" 1 (callK tb k 48)
  h_lesser_side : Has P w K mg base k "lesser_side" 2 (callK tb k 39)
  h_most_crossed : Has P w K mg base k "most_crossed" 1 (callK tb k 40)
  h_most : Has P w K mg base k "most" 1 (callK tb k 41)
  h_least : Has P w K mg base k "least" 1 (callK tb k 49)
  h_orders : Has P w K mg base k "orders" 1 (callK tb k 51)
  h_amounts : Has P w K mg base k "amounts" 1 (callK tb k 52)
  h_most_by : Has P w K mg base k "most_by" 2 (callK tb k 54)
  h_onlookers : Has P w K mg base k "onlookers" 1 (callK tb k 55)
  h_at_home : Has P w K mg base k "at_home" 1 (callK tb k 59)
  h_widened : Has P w K mg base k "widened" 1 (callK tb k 60)
  h__law_draw : Has P w K mg base k "_law_draw" 2 (callK tb k 4)
  h__law_any_order : Has P w K mg base k "_law_any_order" 2 (callK tb k 30)
  h__law_folk : Has P w K mg base k "_law_folk" 2 (callK tb k 12)
  h__law_order : Has P w K mg base k "_law_order" 2 (callK tb k 31)
  h__law_turned_over : Has P w K mg base k "_law_turned_over" 1 (callK tb k 66)
  h__law_changed_right : Has P w K mg base k "_law_changed_right" 3 (callK tb k 67)
structure Fds (K : PySem.W.Frag) (mg : Str → Option Value) : Prop where
  f_suited : Fd K mg "suited" s_suited ["one", "degree"]
  f_settings : Fd K mg "settings" s_settings ["folk", "degree", "visits"]
  f_turned : Fd K mg "turned" s_turned ["folk", "degree", "visits"]
  f_first_day : Fd K mg "first_day" s_first_day ["folk", "degree", "order"]
  f_each_day : Fd K mg "each_day" s_each_day ["folk", "order"]
  f_moves : Fd K mg "moves" s_moves ["folk", "order"]
  f_crossed : Fd K mg "crossed" s_crossed ["folk", "order"]
  f_shares : Fd K mg "shares" s_shares ["folk", "order"]
  f_names_of : Fd K mg "names_of" s_names_of ["folk"]
  f_greatest_low : Fd K mg "greatest_low" s_greatest_low ["folk"]
  f_least_high : Fd K mg "least_high" s_least_high ["folk"]
  f_lesser_side : Fd K mg "lesser_side" s_lesser_side ["folk", "step"]
  f_most_crossed : Fd K mg "most_crossed" s_most_crossed ["folk"]
  f_most : Fd K mg "most" s_most ["folk"]
  f_least : Fd K mg "least" s_least ["folk"]
  f_orders : Fd K mg "orders" s_orders ["names"]
  f_amounts : Fd K mg "amounts" s_amounts ["folk"]
  f_most_by : Fd K mg "most_by" s_most_by ["folk", "name"]
  f_onlookers : Fd K mg "onlookers" s_onlookers ["folk"]
  f_at_home : Fd K mg "at_home" s_at_home ["folk"]
  f_widened : Fd K mg "widened" s_widened ["folk"]
  f__law_draw : Fd K mg "_law_draw" s__law_draw ["tape", "many"]
  f__law_any_order : Fd K mg "_law_any_order" s__law_any_order ["tape", "many"]
  f__law_folk : Fd K mg "_law_folk" s__law_folk ["tape", "size"]
  f__law_order : Fd K mg "_law_order" s__law_order ["tape", "folk"]
  f__law_turned_over : Fd K mg "_law_turned_over" s__law_turned_over ["folk"]
  f__law_changed_right : Fd K mg "_law_changed_right" s__law_changed_right ["tape", "folk", "order"]
section
variable {P : Program} {w : World} {K : PySem.W.Frag} {mg : Str → Option Value} {base : Heap} {k : Nat}
theorem bd_suited (B : Bn mg) (h : All P w K mg base k) (f : Addr) (cdv : Value) (A : Around) (outer : List PySem.Env) (s : Shared) (H : Hp) (E : XK) (hr : Room k (A.deeper (envOfC "suited" (defScope s_suited) s.heap.objs.size f cdv))) : JSs (cxOf CX0 P w K mg base ["one", "degree", "name", "low", "high"] "suited" (defScope s_suited) f cdv A outer s H E).nox (defBody s_suited) (b15 (callK tb k)) := by
  have hu : (A.deeper (envOfC "suited" (defScope s_suited) s.heap.objs.size f cdv)).units + 64 < cLine := by have := hr.un; omega
  have m_max := B.m_max
  have m_min := B.m_min
  exact (js_cons (js_unp (jvar 0) (jg_tup (jgs_cons (jg_name 2 sc_suited.nd) (jgs_cons (jg_name 3 sc_suited.nd) (jgs_cons (jg_name 4 sc_suited.nd) jgs_nil))))) (js_one (js_ret (jmin2 m_min (jr_cons (jr_v (jmax2 m_max (jr_cons (jr_d (jvar 1)) (jr_cons (jr_d (jvar 3)) jr_nil)))) (jr_cons (jr_d (jvar 4)) jr_nil))))))
theorem bd_settings (B : Bn mg) (h : All P w K mg base k) (f : Addr) (cdv : Value) (A : Around) (outer : List PySem.Env) (s : Shared) (H : Hp) (E : XK) (hr : Room k (A.deeper (envOfC "settings" (defScope s_settings) s.heap.objs.size f cdv))) : JSs (cxOf CX0 P w K mg base ["folk", "degree", "visits", "by_name", "one", "found", "name"] "settings" (defScope s_settings) f cdv A outer s H E).nox (defBody s_settings) (b16 (callK tb k)) := by
  have hu : (A.deeper (envOfC "settings" (defScope s_settings) s.heap.objs.size f cdv)).units + 64 < cLine := by have := hr.un; omega
  have h_suited := h.h_suited
  exact (js_cons (js_asgDO sc_settings.nd (jc_bor (jr_d (jvar 0))) (blkOk_by (own := [(("one" : Str), 4)]) (by kernel_rfl)) (fun _ _ _ _ _ => (jg_name 4 sc_settings.nd)) (fun _ _ _ _ _ => jts_nil) (fun _ _ _ _ _ => (jd_v (jix (jr_d (jvar 4)) (jr_d jint)))) (fun _ _ _ _ _ => (jvar 4))) (js_cons (js_asgO sc_settings.nd (jlst ja_nil)) (js_cons (js_for (ji_seq (jvar 2)) (jg_name 6 sc_settings.nd) (js_cons (js_asg sc_settings.nd (jcall h_suited hr (jvs_cons (jdget hu (jmb 3) (jvar 6)) (jvs_cons (jvar 1) jvs_nil)))) (js_one (js_mut (i := 5) PySem.F.slot_list_append PySem.F.type_list_append mt_append app_m (ja_cons (jvar 1) ja_nil))))) (js_one js_retO))))
theorem bd_turned (B : Bn mg) (h : All P w K mg base k) (f : Addr) (cdv : Value) (A : Around) (outer : List PySem.Env) (s : Shared) (H : Hp) (E : XK) (hr : Room k (A.deeper (envOfC "turned" (defScope s_turned) s.heap.objs.size f cdv))) : JSs (cxOf CX0 P w K mg base ["folk", "degree", "visits", "rows", "one", "other"] "turned" (defScope s_turned) f cdv A outer s H E).nox (defBody s_turned) (b17 (callK tb k)) := by
  have hu : (A.deeper (envOfC "turned" (defScope s_turned) s.heap.objs.size f cdv)).units + 64 < cLine := by have := hr.un; omega
  have m_abs := B.m_abs
  have m_sum := B.m_sum
  have m_zip := B.m_zip
  have h_settings := h.h_settings
  exact (js_cons (js_asg sc_turned.nd (jadd (jr_v (jlst (ja_cons (jvar 1) ja_nil))) (jr_v (jcall h_settings hr (jvs_cons (jvar 0) (jvs_cons (jvar 1) (jvs_cons (jvar 2) jvs_nil))))))) (js_one (js_ret (jsum m_sum (jr_cons (jr_v (jcomp sc_turned.nd (jc_zip m_zip (jr_d (jvar 3)) (jr_v (jsl (jr_d (jvar 3)) (jo_some jint) jo_none))) (blkOk_by (own := [(("one" : Str), 4), (("other" : Str), 5)]) (by kernel_rfl)) (fun _ _ _ _ _ => (jg_tup (jgs_cons (jg_name 4 sc_turned.nd) (jgs_cons (jg_name 5 sc_turned.nd) jgs_nil)))) (fun _ _ _ _ _ => jts_nil) (fun _ _ _ _ _ => (jd_v (jabs m_abs (jr_cons (jr_v (jsub (jr_d (jvar 4)) (jr_d (jvar 5)))) jr_nil)))))) jr_nil)))))
theorem bd_first_day (B : Bn mg) (h : All P w K mg base k) (f : Addr) (cdv : Value) (A : Around) (outer : List PySem.Env) (s : Shared) (H : Hp) (E : XK) (hr : Room k (A.deeper (envOfC "first_day" (defScope s_first_day) s.heap.objs.size f cdv))) : JSs (cxOf CX0 P w K mg base ["folk", "degree", "order"] "first_day" (defScope s_first_day) f cdv A outer s H E).nox (defBody s_first_day) (b26 (callK tb k)) := by
  have hu : (A.deeper (envOfC "first_day" (defScope s_first_day) s.heap.objs.size f cdv)).units + 64 < cLine := by have := hr.un; omega
  have h_settings := h.h_settings
  exact (js_one (js_ret (jix (jr_v (jcall h_settings hr (jvs_cons (jvar 0) (jvs_cons (jvar 1) (jvs_cons (jvar 2) jvs_nil))))) (jr_d (jneg jint)))))
theorem bd_each_day (B : Bn mg) (h : All P w K mg base k) (f : Addr) (cdv : Value) (A : Around) (outer : List PySem.Env) (s : Shared) (H : Hp) (E : XK) (hr : Room k (A.deeper (envOfC "each_day" (defScope s_each_day) s.heap.objs.size f cdv))) : JSs (cxOf CX0 P w K mg base ["folk", "order"] "each_day" (defScope s_each_day) f cdv A outer s H E).nox (defBody s_each_day) (b28 (callK tb k)) := by
  have hu : (A.deeper (envOfC "each_day" (defScope s_each_day) s.heap.objs.size f cdv)).units + 64 < cLine := by have := hr.un; omega
  have h_first_day := h.h_first_day
  have h_turned := h.h_turned
  exact (js_one (js_ret (jcall h_turned hr (jvs_cons (jvar 0) (jvs_cons (jd_v (jcall h_first_day hr (jvs_cons (jvar 0) (jvs_cons jint (jvs_cons (jvar 1) jvs_nil))))) (jvs_cons (jvar 1) jvs_nil))))))
theorem bd_moves (B : Bn mg) (h : All P w K mg base k) (f : Addr) (cdv : Value) (A : Around) (outer : List PySem.Env) (s : Shared) (H : Hp) (E : XK) (hr : Room k (A.deeper (envOfC "moves" (defScope s_moves) s.heap.objs.size f cdv))) : JSs (cxOf CX0 P w K mg base ["folk", "order", "here", "found", "name", "there"] "moves" (defScope s_moves) f cdv A outer s H E).nox (defBody s_moves) (b35 (callK tb k)) := by
  have hu : (A.deeper (envOfC "moves" (defScope s_moves) s.heap.objs.size f cdv)).units + 64 < cLine := by have := hr.un; omega
  have m_zip := B.m_zip
  have h_first_day := h.h_first_day
  have h_settings := h.h_settings
  exact (js_cons (js_asg sc_moves.nd (jcall h_first_day hr (jvs_cons (jvar 0) (jvs_cons jint (jvs_cons (jvar 1) jvs_nil))))) (js_cons (js_asgO sc_moves.nd (jlst ja_nil)) (js_cons (js_for (ji_zip m_zip (jvar 1) (jd_v (jcall h_settings hr (jvs_cons (jvar 0) (jvs_cons (jvar 2) (jvs_cons (jvar 1) jvs_nil)))))) (jg_tup (jgs_cons (jg_name 4 sc_moves.nd) (jgs_cons (jg_name 5 sc_moves.nd) jgs_nil))) (js_cons (js_mut (i := 3) PySem.F.slot_list_append PySem.F.type_list_append mt_append app_m (ja_cons (jtup (ja_cons (jvar 4) (ja_cons (jvar 2) (ja_cons (jvar 5) ja_nil)))) ja_nil)) (js_one (js_asg sc_moves.nd (jv_d (jvar 5)))))) (js_one js_retO))))
theorem bd_crossed (B : Bn mg) (h : All P w K mg base k) (f : Addr) (cdv : Value) (A : Around) (outer : List PySem.Env) (s : Shared) (H : Hp) (E : XK) (hr : Room k (A.deeper (envOfC "crossed" (defScope s_crossed) s.heap.objs.size f cdv))) : JSs (cxOf CX0 P w K mg base ["folk", "order", "rows", "found", "step", "name", "one", "other"] "crossed" (defScope s_crossed) f cdv A outer s H E).nox (defBody s_crossed) (b36 (callK tb k)) := by
  have hu : (A.deeper (envOfC "crossed" (defScope s_crossed) s.heap.objs.size f cdv)).units + 64 < cLine := by have := hr.un; omega
  obtain ⟨t_TOP, g_TOP⟩ := B.g_TOP
  have m_len := B.m_len
  have m_max := B.m_max
  have m_min := B.m_min
  have m_range := B.m_range
  have h_moves := h.h_moves
  exact (js_cons (js_asg sc_crossed.nd (jcall h_moves hr (jvs_cons (jvar 0) (jvs_cons (jvar 1) jvs_nil)))) (js_cons (js_asgO sc_crossed.nd (jlst ja_nil)) (js_cons (js_for (ji_range1 m_range (jr_cons (jr_d (jgint g_TOP)) jr_nil)) (jg_name 4 sc_crossed.nd) (js_one (js_mut (i := 3) PySem.F.slot_list_append PySem.F.type_list_append mt_append app_m (ja_cons (jd_v (jlen m_len (jr_cons (jr_v (jcomp sc_crossed.nd (jc_bor (jr_d (jvar 2))) (blkOk_by (own := [(("name" : Str), 5), (("one" : Str), 6), (("other" : Str), 7)]) (by kernel_rfl)) (fun _ _ _ _ _ => (jg_tup (jgs_cons (jg_name 5 sc_crossed.nd) (jgs_cons (jg_name 6 sc_crossed.nd) (jgs_cons (jg_name 7 sc_crossed.nd) jgs_nil))))) (fun _ _ _ _ _ => (jts_one (tchLl hu (jr_v (jmin2 m_min (jr_cons (jr_d (jvar 6)) (jr_cons (jr_d (jvar 7)) jr_nil)))) (jr_d (jvar 4)) (jr_v (jmax2 m_max (jr_cons (jr_d (jvar 6)) (jr_cons (jr_d (jvar 7)) jr_nil))))))) (fun _ _ _ _ _ => jint))) jr_nil))) ja_nil)))) (js_one js_retO))))
theorem bd_shares (B : Bn mg) (h : All P w K mg base k) (f : Addr) (cdv : Value) (A : Around) (outer : List PySem.Env) (s : Shared) (H : Hp) (E : XK) (hr : Room k (A.deeper (envOfC "shares" (defScope s_shares) s.heap.objs.size f cdv))) : JSs (cxOf CX0 P w K mg base ["folk", "order", "name", "one", "other"] "shares" (defScope s_shares) f cdv A outer s H E).nox (defBody s_shares) (b37 (callK tb k)) := by
  have hu : (A.deeper (envOfC "shares" (defScope s_shares) s.heap.objs.size f cdv)).units + 64 < cLine := by have := hr.un; omega
  have m_abs := B.m_abs
  have m_sorted := B.m_sorted
  have h_moves := h.h_moves
  exact (js_one (js_ret (jsorted m_sorted hu (jr_cons (jr_v (jcomp sc_shares.nd (jc_bor (jr_v (jcall h_moves hr (jvs_cons (jvar 0) (jvs_cons (jvar 1) jvs_nil))))) (blkOk_by (own := [(("name" : Str), 2), (("one" : Str), 3), (("other" : Str), 4)]) (by kernel_rfl)) (fun _ _ _ _ _ => (jg_tup (jgs_cons (jg_name 2 sc_shares.nd) (jgs_cons (jg_name 3 sc_shares.nd) (jgs_cons (jg_name 4 sc_shares.nd) jgs_nil))))) (fun _ _ _ _ _ => jts_nil) (fun _ _ _ _ _ => (jtup (ja_cons (jvar 2) (ja_cons (jd_v (jabs m_abs (jr_cons (jr_v (jsub (jr_d (jvar 3)) (jr_d (jvar 4)))) jr_nil))) ja_nil)))))) jr_nil))))
theorem bd_names_of (B : Bn mg) (h : All P w K mg base k) (f : Addr) (cdv : Value) (A : Around) (outer : List PySem.Env) (s : Shared) (H : Hp) (E : XK) (hr : Room k (A.deeper (envOfC "names_of" (defScope s_names_of) s.heap.objs.size f cdv))) : JSs (cxOf CX0 P w K mg base ["folk", "one"] "names_of" (defScope s_names_of) f cdv A outer s H E).nox (defBody s_names_of) (b46 (callK tb k)) := by
  have hu : (A.deeper (envOfC "names_of" (defScope s_names_of) s.heap.objs.size f cdv)).units + 64 < cLine := by have := hr.un; omega
  exact (js_one (js_ret (jcomp sc_names_of.nd (jc_bor (jr_d (jvar 0))) (blkOk_by (own := [(("one" : Str), 1)]) (by kernel_rfl)) (fun _ _ _ _ _ => (jg_name 1 sc_names_of.nd)) (fun _ _ _ _ _ => jts_nil) (fun _ _ _ _ _ => (jd_v (jix (jr_d (jvar 1)) (jr_d jint)))))))
theorem bd_greatest_low (B : Bn mg) (h : All P w K mg base k) (f : Addr) (cdv : Value) (A : Around) (outer : List PySem.Env) (s : Shared) (H : Hp) (E : XK) (hr : Room k (A.deeper (envOfC "greatest_low" (defScope s_greatest_low) s.heap.objs.size f cdv))) : JSs (cxOf CX0 P w K mg base ["folk", "name", "low", "high"] "greatest_low" (defScope s_greatest_low) f cdv A outer s H E).nox (defBody s_greatest_low) (b47 (callK tb k)) := by
  have hu : (A.deeper (envOfC "greatest_low" (defScope s_greatest_low) s.heap.objs.size f cdv)).units + 64 < cLine := by have := hr.un; omega
  have m_max := B.m_max
  exact (js_one (js_ret (jmaxL m_max hu (jr_cons (jr_v (jcomp sc_greatest_low.nd (jc_bor (jr_d (jvar 0))) (blkOk_by (own := [(("name" : Str), 1), (("low" : Str), 2), (("high" : Str), 3)]) (by kernel_rfl)) (fun _ _ _ _ _ => (jg_tup (jgs_cons (jg_name 1 sc_greatest_low.nd) (jgs_cons (jg_name 2 sc_greatest_low.nd) (jgs_cons (jg_name 3 sc_greatest_low.nd) jgs_nil))))) (fun _ _ _ _ _ => jts_nil) (fun _ _ _ _ _ => (jvar 2)))) jr_nil))))
theorem bd_least_high (B : Bn mg) (h : All P w K mg base k) (f : Addr) (cdv : Value) (A : Around) (outer : List PySem.Env) (s : Shared) (H : Hp) (E : XK) (hr : Room k (A.deeper (envOfC "least_high" (defScope s_least_high) s.heap.objs.size f cdv))) : JSs (cxOf CX0 P w K mg base ["folk", "name", "low", "high"] "least_high" (defScope s_least_high) f cdv A outer s H E).nox (defBody s_least_high) (b48 (callK tb k)) := by
  have hu : (A.deeper (envOfC "least_high" (defScope s_least_high) s.heap.objs.size f cdv)).units + 64 < cLine := by have := hr.un; omega
  have m_min := B.m_min
  exact (js_one (js_ret (jminL m_min hu (jr_cons (jr_v (jcomp sc_least_high.nd (jc_bor (jr_d (jvar 0))) (blkOk_by (own := [(("name" : Str), 1), (("low" : Str), 2), (("high" : Str), 3)]) (by kernel_rfl)) (fun _ _ _ _ _ => (jg_tup (jgs_cons (jg_name 1 sc_least_high.nd) (jgs_cons (jg_name 2 sc_least_high.nd) (jgs_cons (jg_name 3 sc_least_high.nd) jgs_nil))))) (fun _ _ _ _ _ => jts_nil) (fun _ _ _ _ _ => (jvar 3)))) jr_nil))))
theorem bd_lesser_side (B : Bn mg) (h : All P w K mg base k) (f : Addr) (cdv : Value) (A : Around) (outer : List PySem.Env) (s : Shared) (H : Hp) (E : XK) (hr : Room k (A.deeper (envOfC "lesser_side" (defScope s_lesser_side) s.heap.objs.size f cdv))) : JSs (cxOf CX0 P w K mg base ["folk", "step", "below", "name", "low", "high", "above"] "lesser_side" (defScope s_lesser_side) f cdv A outer s H E).nox (defBody s_lesser_side) (b39 (callK tb k)) := by
  have hu : (A.deeper (envOfC "lesser_side" (defScope s_lesser_side) s.heap.objs.size f cdv)).units + 64 < cLine := by have := hr.un; omega
  have m_len := B.m_len
  have m_min := B.m_min
  exact (js_cons (js_asg sc_lesser_side.nd (jlen m_len (jr_cons (jr_v (jcomp sc_lesser_side.nd (jc_bor (jr_d (jvar 0))) (blkOk_by (own := [(("name" : Str), 3), (("low" : Str), 4), (("high" : Str), 5)]) (by kernel_rfl)) (fun _ _ _ _ _ => (jg_tup (jgs_cons (jg_name 3 sc_lesser_side.nd) (jgs_cons (jg_name 4 sc_lesser_side.nd) (jgs_cons (jg_name 5 sc_lesser_side.nd) jgs_nil))))) (fun _ _ _ _ _ => (jts_one (tle hu (jr_d (jvar 5)) (jr_d (jvar 1))))) (fun _ _ _ _ _ => jint))) jr_nil))) (js_cons (js_asg sc_lesser_side.nd (jlen m_len (jr_cons (jr_v (jcomp sc_lesser_side.nd (jc_bor (jr_d (jvar 0))) (blkOk_by (own := [(("name" : Str), 3), (("low" : Str), 4), (("high" : Str), 5)]) (by kernel_rfl)) (fun _ _ _ _ _ => (jg_tup (jgs_cons (jg_name 3 sc_lesser_side.nd) (jgs_cons (jg_name 4 sc_lesser_side.nd) (jgs_cons (jg_name 5 sc_lesser_side.nd) jgs_nil))))) (fun _ _ _ _ _ => (jts_one (tgt hu (jr_d (jvar 4)) (jr_d (jvar 1))))) (fun _ _ _ _ _ => jint))) jr_nil))) (js_one (js_ret (jmin2 m_min (jr_cons (jr_d (jvar 2)) (jr_cons (jr_d (jvar 6)) jr_nil)))))))
theorem bd_most_crossed (B : Bn mg) (h : All P w K mg base k) (f : Addr) (cdv : Value) (A : Around) (outer : List PySem.Env) (s : Shared) (H : Hp) (E : XK) (hr : Room k (A.deeper (envOfC "most_crossed" (defScope s_most_crossed) s.heap.objs.size f cdv))) : JSs (cxOf CX0 P w K mg base ["folk", "step"] "most_crossed" (defScope s_most_crossed) f cdv A outer s H E).nox (defBody s_most_crossed) (b40 (callK tb k)) := by
  have hu : (A.deeper (envOfC "most_crossed" (defScope s_most_crossed) s.heap.objs.size f cdv)).units + 64 < cLine := by have := hr.un; omega
  obtain ⟨t_TOP, g_TOP⟩ := B.g_TOP
  have m_range := B.m_range
  have h_lesser_side := h.h_lesser_side
  exact (js_one (js_ret (jcomp sc_most_crossed.nd (jc_i (ji_range1 m_range (jr_cons (jr_d (jgint g_TOP)) jr_nil))) (blkOk_by (own := [(("step" : Str), 1)]) (by kernel_rfl)) (fun _ _ _ _ _ => (jg_name 1 sc_most_crossed.nd)) (fun _ _ _ _ _ => jts_nil) (fun _ _ _ _ _ => (jd_v (jmul (jr_d jint) (jr_v (jcall h_lesser_side hr (jvs_cons (jvar 0) (jvs_cons (jvar 1) jvs_nil))))))))))
theorem bd_most (B : Bn mg) (h : All P w K mg base k) (f : Addr) (cdv : Value) (A : Around) (outer : List PySem.Env) (s : Shared) (H : Hp) (E : XK) (hr : Room k (A.deeper (envOfC "most" (defScope s_most) s.heap.objs.size f cdv))) : JSs (cxOf CX0 P w K mg base ["folk"] "most" (defScope s_most) f cdv A outer s H E).nox (defBody s_most) (b41 (callK tb k)) := by
  have hu : (A.deeper (envOfC "most" (defScope s_most) s.heap.objs.size f cdv)).units + 64 < cLine := by have := hr.un; omega
  have m_sum := B.m_sum
  have h_most_crossed := h.h_most_crossed
  exact (js_one (js_ret (jsum m_sum (jr_cons (jr_v (jcall h_most_crossed hr (jvs_cons (jvar 0) jvs_nil))) jr_nil))))
theorem bd_least (B : Bn mg) (h : All P w K mg base k) (f : Addr) (cdv : Value) (A : Around) (outer : List PySem.Env) (s : Shared) (H : Hp) (E : XK) (hr : Room k (A.deeper (envOfC "least" (defScope s_least) s.heap.objs.size f cdv))) : JSs (cxOf CX0 P w K mg base ["folk"] "least" (defScope s_least) f cdv A outer s H E).nox (defBody s_least) (b49 (callK tb k)) := by
  have hu : (A.deeper (envOfC "least" (defScope s_least) s.heap.objs.size f cdv)).units + 64 < cLine := by have := hr.un; omega
  have m_max := B.m_max
  have h_greatest_low := h.h_greatest_low
  have h_least_high := h.h_least_high
  exact (js_one (js_ret (jmul (jr_d jint) (jr_v (jmax2 m_max (jr_cons (jr_d jint) (jr_cons (jr_v (jsub (jr_v (jcall h_greatest_low hr (jvs_cons (jvar 0) jvs_nil))) (jr_v (jcall h_least_high hr (jvs_cons (jvar 0) jvs_nil))))) jr_nil)))))))
theorem bd_orders (B : Bn mg) (h : All P w K mg base k) (f : Addr) (cdv : Value) (A : Around) (outer : List PySem.Env) (s : Shared) (H : Hp) (E : XK) (hr : Room k (A.deeper (envOfC "orders" (defScope s_orders) s.heap.objs.size f cdv))) : JSs (cxOf CX0 P w K mg base ["names", "found", "name", "row", "at"] "orders" (defScope s_orders) f cdv A outer s H E).nox (defBody s_orders) (b51 (callK tb k)) := by
  have hu : (A.deeper (envOfC "orders" (defScope s_orders) s.heap.objs.size f cdv)).units + 64 < cLine := by have := hr.un; omega
  have m_len := B.m_len
  have m_range := B.m_range
  exact (js_cons (js_asg sc_orders.nd (jlst (ja_cons (jd_v (jsl (jr_d (jvar 0)) jo_none (jo_some jint))) ja_nil))) (js_cons (js_for (ji_seq (jd_v (jsl (jr_d (jvar 0)) (jo_some jint) jo_none))) (jg_name 2 sc_orders.nd) (js_one (js_asgC2 (vs1 := [4]) sc_orders.nd (jc_bor (jr_d (jvar 1))) (blkOk_by (own := [(("row" : Str), 3), (("at" : Str), 4)]) (by kernel_rfl)) (by decide) (fun _ _ _ _ _ => (jg_name 3 sc_orders.nd)) (fun _ _ _ _ _ => jts_nil) (fun _ _ _ _ _ => (ji_range2 m_range (jr_cons (jr_d jint) (jr_cons (jr_v (jadd (jr_v (jlen m_len (jr_cons (jr_d (jvar 3)) jr_nil))) (jr_d jint))) jr_nil)))) (fun _ _ _ _ _ => (jg_name 4 sc_orders.nd)) (fun _ _ _ _ _ => jts_nil) (fun _ _ _ _ _ => (jd_v (jadd (jr_v (jadd (jr_v (jsl (jr_d (jvar 3)) jo_none (jo_some (jvar 4)))) (jr_v (jlst (ja_cons (jvar 2) ja_nil))))) (jr_v (jsl (jr_d (jvar 3)) (jo_some (jvar 4)) jo_none)))))))) (js_one (js_ret (jv_d (jvar 1))))))
theorem bd_amounts (B : Bn mg) (h : All P w K mg base k) (f : Addr) (cdv : Value) (A : Around) (outer : List PySem.Env) (s : Shared) (H : Hp) (E : XK) (hr : Room k (A.deeper (envOfC "amounts" (defScope s_amounts) s.heap.objs.size f cdv))) : JSs (cxOf CX0 P w K mg base ["folk", "order"] "amounts" (defScope s_amounts) f cdv A outer s H E).nox (defBody s_amounts) (b52 (callK tb k)) := by
  have hu : (A.deeper (envOfC "amounts" (defScope s_amounts) s.heap.objs.size f cdv)).units + 64 < cLine := by have := hr.un; omega
  have m_sorted := B.m_sorted
  have m_tuple := B.m_tuple
  have h_each_day := h.h_each_day
  have h_names_of := h.h_names_of
  have h_orders := h.h_orders
  exact (js_one (js_ret (jsortedM m_sorted hu (jm_v (jdc sc_amounts.nd (jc_bor (jr_v (jcall h_orders hr (jvs_cons (jd_v (jcall h_names_of hr (jvs_cons (jvar 0) jvs_nil))) jvs_nil)))) (blkOk_by (own := [(("order" : Str), 1)]) (by kernel_rfl)) (fun _ _ _ _ _ => (jg_name 1 sc_amounts.nd)) (fun _ _ _ _ _ => jts_nil) (fun _ _ _ _ _ => (jd_v (jcall h_each_day hr (jvs_cons (jvar 0) (jvs_cons (jd_v (jtuple m_tuple (jr_cons (jr_d (jvar 1)) jr_nil))) jvs_nil))))) (fun _ _ _ _ _ => jbl))))))
theorem bd_most_by (B : Bn mg) (h : All P w K mg base k) (f : Addr) (cdv : Value) (A : Around) (outer : List PySem.Env) (s : Shared) (H : Hp) (E : XK) (hr : Room k (A.deeper (envOfC "most_by" (defScope s_most_by) s.heap.objs.size f cdv))) : JSs (cxOf CX0 P w K mg base ["folk", "name", "one", "row", "others"] "most_by" (defScope s_most_by) f cdv A outer s H E).nox (defBody s_most_by) (b54 (callK tb k)) := by
  have hu : (A.deeper (envOfC "most_by" (defScope s_most_by) s.heap.objs.size f cdv)).units + 64 < cLine := by have := hr.un; omega
  have m_max := B.m_max
  have h_greatest_low := h.h_greatest_low
  have h_least_high := h.h_least_high
  exact (js_cons (js_asg sc_most_by.nd (jix (jr_v (jcomp sc_most_by.nd (jc_bor (jr_d (jvar 0))) (blkOk_by (own := [(("row" : Str), 3)]) (by kernel_rfl)) (fun _ _ _ _ _ => (jg_name 3 sc_most_by.nd)) (fun _ _ _ _ _ => (jts_one (teq hu (jr_v (jix (jr_d (jvar 3)) (jr_d jint))) (jr_d (jvar 1))))) (fun _ _ _ _ _ => (jvar 3)))) (jr_d jint))) (js_cons (js_asgC sc_most_by.nd (jc_bor (jr_d (jvar 0))) (blkOk_by (own := [(("row" : Str), 3)]) (by kernel_rfl)) (fun _ _ _ _ _ => (jg_name 3 sc_most_by.nd)) (fun _ _ _ _ _ => (jts_one (tne hu (jr_v (jix (jr_d (jvar 3)) (jr_d jint))) (jr_d (jvar 1))))) (fun _ _ _ _ _ => (jvar 3))) (js_cons (jif_s (teq hu (jr_d (jvar 4)) (jr_v (jlst ja_nil))) (js_one (js_ret (jv_d jint))) js_nil) (js_one (js_ret (jmax3 m_max (jr_cons (jr_d jint) (jr_cons (jr_v (jsub (jr_v (jix (jr_d (jvar 2)) (jr_d jint))) (jr_v (jcall h_least_high hr (jvs_cons (jvar 4) jvs_nil))))) (jr_cons (jr_v (jsub (jr_v (jcall h_greatest_low hr (jvs_cons (jvar 4) jvs_nil))) (jr_v (jix (jr_d (jvar 2)) (jr_d jint))))) jr_nil)))))))))
theorem bd_onlookers (B : Bn mg) (h : All P w K mg base k) (f : Addr) (cdv : Value) (A : Around) (outer : List PySem.Env) (s : Shared) (H : Hp) (E : XK) (hr : Room k (A.deeper (envOfC "onlookers" (defScope s_onlookers) s.heap.objs.size f cdv))) : JSs (cxOf CX0 P w K mg base ["folk", "name"] "onlookers" (defScope s_onlookers) f cdv A outer s H E).nox (defBody s_onlookers) (b55 (callK tb k)) := by
  have hu : (A.deeper (envOfC "onlookers" (defScope s_onlookers) s.heap.objs.size f cdv)).units + 64 < cLine := by have := hr.un; omega
  have m_tuple := B.m_tuple
  have h_most_by := h.h_most_by
  have h_names_of := h.h_names_of
  exact (js_one (js_ret (jtuple m_tuple (jr_cons (jr_v (jcomp sc_onlookers.nd (jc_bor (jr_v (jcall h_names_of hr (jvs_cons (jvar 0) jvs_nil)))) (blkOk_by (own := [(("name" : Str), 1)]) (by kernel_rfl)) (fun _ _ _ _ _ => (jg_name 1 sc_onlookers.nd)) (fun _ _ _ _ _ => (jts_one (teq hu (jr_v (jcall h_most_by hr (jvs_cons (jvar 0) (jvs_cons (jvar 1) jvs_nil)))) (jr_d jint)))) (fun _ _ _ _ _ => (jvar 1)))) jr_nil))))
theorem bd_at_home (B : Bn mg) (h : All P w K mg base k) (f : Addr) (cdv : Value) (A : Around) (outer : List PySem.Env) (s : Shared) (H : Hp) (E : XK) (hr : Room k (A.deeper (envOfC "at_home" (defScope s_at_home) s.heap.objs.size f cdv))) : JSs (cxOf CX0 P w K mg base ["folk", "rows", "degree", "out", "name", "low", "high"] "at_home" (defScope s_at_home) f cdv A outer s H E).nox (defBody s_at_home) (b59 (callK tb k)) := by
  have hu : (A.deeper (envOfC "at_home" (defScope s_at_home) s.heap.objs.size f cdv)).units + 64 < cLine := by have := hr.un; omega
  obtain ⟨t_TOP, g_TOP⟩ := B.g_TOP
  have m_len := B.m_len
  have m_min := B.m_min
  have m_range := B.m_range
  have m_tuple := B.m_tuple
  exact (js_cons (js_asgO sc_at_home.nd (jlst ja_nil)) (js_cons (js_for (ji_range1 m_range (jr_cons (jr_v (jadd (jr_d (jgint g_TOP)) (jr_d jint))) jr_nil)) (jg_name 2 sc_at_home.nd) (js_cons (js_asg sc_at_home.nd (jtuple m_tuple (jr_cons (jr_v (jcomp sc_at_home.nd (jc_bor (jr_d (jvar 0))) (blkOk_by (own := [(("name" : Str), 4), (("low" : Str), 5), (("high" : Str), 6)]) (by kernel_rfl)) (fun _ _ _ _ _ => (jg_tup (jgs_cons (jg_name 4 sc_at_home.nd) (jgs_cons (jg_name 5 sc_at_home.nd) (jgs_cons (jg_name 6 sc_at_home.nd) jgs_nil))))) (fun _ _ _ _ _ => (jts_one (jtnot (tchLL (jr_d (jvar 5)) (jr_d (jvar 2)) (jr_d (jvar 6)))))) (fun _ _ _ _ _ => (jvar 4)))) jr_nil))) (js_one (js_mut (i := 1) PySem.F.slot_list_append PySem.F.type_list_append mt_append app_m (ja_cons (jtup (ja_cons (jd_v (jlen m_len (jr_cons (jr_d (jvar 3)) jr_nil))) (ja_cons (jvar 3) ja_nil))) ja_nil))))) (js_one (js_ret (jix (jr_v (jminL m_min hu (jr_cons (jbor 1) jr_nil))) (jr_d jint))))))
theorem bd_widened (B : Bn mg) (h : All P w K mg base k) (f : Addr) (cdv : Value) (A : Around) (outer : List PySem.Env) (s : Shared) (H : Hp) (E : XK) (hr : Room k (A.deeper (envOfC "widened" (defScope s_widened) s.heap.objs.size f cdv))) : JSs (cxOf CX0 P w K mg base ["folk"] "widened" (defScope s_widened) f cdv A outer s H E).nox (defBody s_widened) (b60 (callK tb k)) := by
  have hu : (A.deeper (envOfC "widened" (defScope s_widened) s.heap.objs.size f cdv)).units + 64 < cLine := by have := hr.un; omega
  have m_max := B.m_max
  have h_greatest_low := h.h_greatest_low
  have h_least_high := h.h_least_high
  exact (js_one (js_ret (jmax2 m_max (jr_cons (jr_d jint) (jr_cons (jr_v (jfdiv (jr_v (jadd (jr_v (jsub (jr_v (jcall h_greatest_low hr (jvs_cons (jvar 0) jvs_nil))) (jr_v (jcall h_least_high hr (jvs_cons (jvar 0) jvs_nil))))) (jr_d jint))) (jr_d jint))) jr_nil)))))
theorem bd__law_draw (B : Bn mg) (h : All P w K mg base k) (f : Addr) (cdv : Value) (A : Around) (outer : List PySem.Env) (s : Shared) (H : Hp) (E : XK) (hr : Room k (A.deeper (envOfC "_law_draw" (defScope s__law_draw) s.heap.objs.size f cdv))) : JSs (cxOf CX0 P w K mg base ["tape", "many", "prime", "cell", "found"] "_law_draw" (defScope s__law_draw) f cdv A outer s H E).nox (defBody s__law_draw) (b4 (callK tb k)) := by
  have hu : (A.deeper (envOfC "_law_draw" (defScope s__law_draw) s.heap.objs.size f cdv)).units + 64 < cLine := by have := hr.un; omega
  have m_len := B.m_len
  exact (js_cons (js_asg sc__law_draw.nd (jv_d jint)) (js_cons (jif_s (tlt hu (jr_d (jtapix (jtap 0))) (jr_d (jvar 1))) (js_cons (js_asg sc__law_draw.nd (jv_d jint)) (js_cons (jif_s (tgt hu (jr_v (jlen m_len (jr_cons (jr_d (jtapix (jtap 0))) jr_nil))) (jr_d jint)) (js_one (js_asg sc__law_draw.nd (jix (jr_d (jtapix (jtap 0))) (jr_v (jmod (jr_d (jtapix (jtap 0))) (jr_v (jlen m_len (jr_cons (jr_d (jtapix (jtap 0))) jr_nil)))))))) js_nil) (js_cons (jif_s (jtw (jwor (tge hu (jr_d (jtapix (jtap 0))) (jr_v (jlen m_len (jr_cons (jr_d (jtapix (jtap 0))) jr_nil)))) (jwor1 (tlt hu (jr_d (jvar 3)) (jr_v (jpow (jr_d jint) (jr_d jint))))))) (js_cons (js_asg sc__law_draw.nd (jmod (jr_v (jadd (jr_d (jvar 3)) (jr_v (jmul (jr_d jint) (jr_d (jtapix (jtap 0))))))) (jr_d (jvar 2)))) (js_cons (js_asg sc__law_draw.nd (jmod (jr_v (jadd (jr_v (jadd (jr_v (jmul (jr_d (jvar 3)) (jr_d (jvar 3)))) (jr_v (jmul (jr_d jint) (jr_d (jvar 3)))))) (jr_d jint))) (jr_d (jvar 2)))) (js_one (js_asg sc__law_draw.nd (jmod (jr_v (jadd (jr_v (jmul (jr_d (jvar 3)) (jr_d (jvar 3)))) (jr_d jint))) (jr_d (jvar 2))))))) js_nil) (js_cons (js_tap (i := 0) (j := 1) (jd_v (jadd (jr_d (jtapix (jtap 0))) (jr_d jint)))) (js_one (js_tap (i := 0) (j := 2) (jvar 3))))))) js_nil) (js_cons (js_asg sc__law_draw.nd (jmod (jr_d (jtapix (jtap 0))) (jr_d (jvar 1)))) (js_cons (js_tap (i := 0) (j := 2) (jd_v (jfdiv (jr_d (jtapix (jtap 0))) (jr_d (jvar 1))))) (js_one (js_ret (jv_d (jvar 4))))))))
theorem bd__law_any_order (B : Bn mg) (h : All P w K mg base k) (f : Addr) (cdv : Value) (A : Around) (outer : List PySem.Env) (s : Shared) (H : Hp) (E : XK) (hr : Room k (A.deeper (envOfC "_law_any_order" (defScope s__law_any_order) s.heap.objs.size f cdv))) : JSs (cxOf CX0 P w K mg base ["tape", "many", "found", "k"] "_law_any_order" (defScope s__law_any_order) f cdv A outer s H E).nox (defBody s__law_any_order) (b30 (callK tb k)) := by
  have hu : (A.deeper (envOfC "_law_any_order" (defScope s__law_any_order) s.heap.objs.size f cdv)).units + 64 < cLine := by have := hr.un; omega
  have m_range := B.m_range
  have m_tuple := B.m_tuple
  have h__law_draw := h.h__law_draw
  exact (js_cons (js_asgO sc__law_any_order.nd (jlst ja_nil)) (js_cons (js_for (ji_range1 m_range (jr_cons (jr_d (jvar 1)) jr_nil)) (jg_name 3 sc__law_any_order.nd) (js_one (js_mut (i := 2) PySem.F.slot_list_insert PySem.F.type_list_insert mt_insert ins_m (ja_cons (jd_v (jcall h__law_draw hr (jvs_tap (jtap 0) (jvs_cons (jd_v (jadd (jr_d (jvar 3)) (jr_d jint))) jvs_nil)))) (ja_cons (jvar 3) ja_nil))))) (js_one (js_ret (jtuple m_tuple (jr_cons (jbor 2) jr_nil))))))
theorem bd__law_folk (B : Bn mg) (h : All P w K mg base k) (f : Addr) (cdv : Value) (A : Around) (outer : List PySem.Env) (s : Shared) (H : Hp) (E : XK) (hr : Room k (A.deeper (envOfC "_law_folk" (defScope s__law_folk) s.heap.objs.size f cdv))) : JSs (cxOf CX0 P w K mg base ["tape", "size", "wide", "long", "begin", "found", "name", "low"] "_law_folk" (defScope s__law_folk) f cdv A outer s H E).nox (defBody s__law_folk) (b12 (callK tb k)) := by
  have hu : (A.deeper (envOfC "_law_folk" (defScope s__law_folk) s.heap.objs.size f cdv)).units + 64 < cLine := by have := hr.un; omega
  have m_min := B.m_min
  have m_tuple := B.m_tuple
  have h__law_draw := h.h__law_draw
  exact (js_cons (js_par2 sc__law_folk.nd (jw_cons (jd_v (jix (jr_v (jlst (ja_cons jint (ja_cons jint (ja_cons jint ja_nil))))) (jr_v (jcall h__law_draw hr (jvs_tap (jtap 0) (jvs_cons jint jvs_nil)))))) (jw_cons (jd_v (jix (jr_v (jlst (ja_cons jint (ja_cons jint (ja_cons jint ja_nil))))) (jr_v (jcall h__law_draw hr (jvs_tap (jtap 0) (jvs_cons jint jvs_nil)))))) jw_nil))) (js_cons (js_asg sc__law_folk.nd (jcall h__law_draw hr (jvs_tap (jtap 0) (jvs_cons (jd_v (jsub (jr_d jint) (jr_d (jvar 2)))) jvs_nil)))) (js_cons (js_asgO sc__law_folk.nd (jlst ja_nil)) (js_cons (js_for (ji_seq (jd_v (jsl (jr_v (jlst (ja_cons jstr (ja_cons jstr (ja_cons jstr (ja_cons jstr (ja_cons jstr (ja_cons jstr ja_nil)))))))) jo_none (jo_some (jd_v (jadd (jr_d jint) (jr_v (jcall h__law_draw hr (jvs_tap (jtap 0) (jvs_cons (jvar 1) jvs_nil)))))))))) (jg_name 6 sc__law_folk.nd) (js_cons (js_asg sc__law_folk.nd (jadd (jr_d (jvar 4)) (jr_v (jcall h__law_draw hr (jvs_tap (jtap 0) (jvs_cons (jvar 2) jvs_nil)))))) (js_one (js_mut (i := 5) PySem.F.slot_list_append PySem.F.type_list_append mt_append app_m (ja_cons (jtup (ja_cons (jvar 6) (ja_cons (jvar 7) (ja_cons (jd_v (jmin2 m_min (jr_cons (jr_d jint) (jr_cons (jr_v (jadd (jr_d (jvar 7)) (jr_v (jcall h__law_draw hr (jvs_tap (jtap 0) (jvs_cons (jvar 3) jvs_nil)))))) jr_nil)))) ja_nil)))) ja_nil))))) (js_one (js_ret (jtuple m_tuple (jr_cons (jbor 5) jr_nil))))))))
theorem bd__law_order (B : Bn mg) (h : All P w K mg base k) (f : Addr) (cdv : Value) (A : Around) (outer : List PySem.Env) (s : Shared) (H : Hp) (E : XK) (hr : Room k (A.deeper (envOfC "_law_order" (defScope s__law_order) s.heap.objs.size f cdv))) : JSs (cxOf CX0 P w K mg base ["tape", "folk", "at"] "_law_order" (defScope s__law_order) f cdv A outer s H E).nox (defBody s__law_order) (b31 (callK tb k)) := by
  have hu : (A.deeper (envOfC "_law_order" (defScope s__law_order) s.heap.objs.size f cdv)).units + 64 < cLine := by have := hr.un; omega
  have m_len := B.m_len
  have m_tuple := B.m_tuple
  have h__law_any_order := h.h__law_any_order
  exact (js_one (js_ret (jtuple m_tuple (jr_cons (jr_v (jcomp sc__law_order.nd (jc_bor (jr_v (jcall h__law_any_order hr (jvs_tap (jtap 0) (jvs_cons (jd_v (jlen m_len (jr_cons (jr_d (jvar 1)) jr_nil))) jvs_nil))))) (blkOk_by (own := [(("at" : Str), 2)]) (by kernel_rfl)) (fun _ _ _ _ _ => (jg_name 2 sc__law_order.nd)) (fun _ _ _ _ _ => jts_nil) (fun _ _ _ _ _ => (jd_v (jix (jr_v (jix (jr_d (jvar 1)) (jr_d (jvar 2)))) (jr_d jint)))))) jr_nil))))
theorem bd__law_turned_over (B : Bn mg) (h : All P w K mg base k) (f : Addr) (cdv : Value) (A : Around) (outer : List PySem.Env) (s : Shared) (H : Hp) (E : XK) (hr : Room k (A.deeper (envOfC "_law_turned_over" (defScope s__law_turned_over) s.heap.objs.size f cdv))) : JSs (cxOf CX0 P w K mg base ["folk", "name", "low", "high"] "_law_turned_over" (defScope s__law_turned_over) f cdv A outer s H E).nox (defBody s__law_turned_over) (b66 (callK tb k)) := by
  have hu : (A.deeper (envOfC "_law_turned_over" (defScope s__law_turned_over) s.heap.objs.size f cdv)).units + 64 < cLine := by have := hr.un; omega
  have m_tuple := B.m_tuple
  exact (js_one (js_ret (jtuple m_tuple (jr_cons (jr_v (jcomp sc__law_turned_over.nd (jc_bor (jr_d (jvar 0))) (blkOk_by (own := [(("name" : Str), 1), (("low" : Str), 2), (("high" : Str), 3)]) (by kernel_rfl)) (fun _ _ _ _ _ => (jg_tup (jgs_cons (jg_name 1 sc__law_turned_over.nd) (jgs_cons (jg_name 2 sc__law_turned_over.nd) (jgs_cons (jg_name 3 sc__law_turned_over.nd) jgs_nil))))) (fun _ _ _ _ _ => jts_nil) (fun _ _ _ _ _ => (jtup (ja_cons (jvar 1) (ja_cons (jd_v (jsub (jr_d jint) (jr_d (jvar 3)))) (ja_cons (jd_v (jsub (jr_d jint) (jr_d (jvar 2)))) ja_nil))))))) jr_nil))))
theorem bd__law_changed_right (B : Bn mg) (h : All P w K mg base k) (f : Addr) (cdv : Value) (A : Around) (outer : List PySem.Env) (s : Shared) (H : Hp) (E : XK) (hr : Room k (A.deeper (envOfC "_law_changed_right" (defScope s__law_changed_right) s.heap.objs.size f cdv))) : JSs (cxOf CX0 P w K mg base ["tape", "folk", "order", "at", "name", "low", "high", "one", "fewer", "wide", "other", "a", "b"] "_law_changed_right" (defScope s__law_changed_right) f cdv A outer s H E).nox (defBody s__law_changed_right) (b67 (callK tb k)) := by
  have hu : (A.deeper (envOfC "_law_changed_right" (defScope s__law_changed_right) s.heap.objs.size f cdv)).units + 64 < cLine := by have := hr.un; omega
  have m_len := B.m_len
  have m_zip := B.m_zip
  have h__law_draw := h.h__law_draw
  have h_at_home := h.h_at_home
  have h_each_day := h.h_each_day
  have h_least := h.h_least
  have h_most := h.h_most
  have h_most_crossed := h.h_most_crossed
  have h_widened := h.h_widened
  exact (js_cons (js_asg sc__law_changed_right.nd (jcall h__law_draw hr (jvs_tap (jtap 0) (jvs_cons (jd_v (jlen m_len (jr_cons (jr_d (jvar 1)) jr_nil))) jvs_nil)))) (js_cons (js_unp (jd_v (jix (jr_d (jvar 1)) (jr_d (jvar 3)))) (jg_tup (jgs_cons (jg_name 4 sc__law_changed_right.nd) (jgs_cons (jg_name 5 sc__law_changed_right.nd) (jgs_cons (jg_name 6 sc__law_changed_right.nd) jgs_nil))))) (js_cons (js_asg sc__law_changed_right.nd (jv_d (jtup (ja_cons (jvar 4) (ja_cons (jd_v (jcall h__law_draw hr (jvs_tap (jtap 0) (jvs_cons (jd_v (jadd (jr_d (jvar 5)) (jr_d jint))) jvs_nil)))) (ja_cons (jd_v (jadd (jr_d (jvar 6)) (jr_v (jcall h__law_draw hr (jvs_tap (jtap 0) (jvs_cons (jd_v (jsub (jr_d jint) (jr_d (jvar 6)))) jvs_nil)))))) ja_nil)))))) (js_cons (js_asg sc__law_changed_right.nd (jadd (jr_v (jsl (jr_d (jvar 1)) jo_none (jo_some (jvar 3)))) (jr_v (jsl (jr_d (jvar 1)) (jo_some (jd_v (jadd (jr_d (jvar 3)) (jr_d jint)))) jo_none)))) (js_cons (js_asg sc__law_changed_right.nd (jadd (jr_v (jadd (jr_v (jsl (jr_d (jvar 1)) jo_none (jo_some (jvar 3)))) (jr_d (jtup (ja_cons (jvar 7) ja_nil))))) (jr_v (jsl (jr_d (jvar 1)) (jo_some (jd_v (jadd (jr_d (jvar 3)) (jr_d jint)))) jo_none)))) (js_cons (js_for (ji_seq (jd_v (jlst (ja_cons (jvar 9) (ja_cons (jvar 8) ja_nil))))) (jg_name 10 sc__law_changed_right.nd) (js_one (jif_s (tne hu (jr_d (jvar 10)) (jr_d (jtup ja_nil))) (js_cons (jif_s (jtw (jwor (tgt hu (jr_v (jcall h_most hr (jvs_cons (jvar 10) jvs_nil))) (jr_v (jcall h_most hr (jvs_cons (jvar 1) jvs_nil)))) (jwor1 (tgt hu (jr_v (jcall h_least hr (jvs_cons (jvar 10) jvs_nil))) (jr_v (jcall h_least hr (jvs_cons (jvar 1) jvs_nil))))))) (js_one (js_ret (jv_d jbl))) js_nil) (js_cons (jif_s (tgt hu (jr_v (jlen m_len (jr_cons (jr_v (jcall h_at_home hr (jvs_cons (jvar 10) jvs_nil))) jr_nil))) (jr_v (jlen m_len (jr_cons (jr_v (jcall h_at_home hr (jvs_cons (jvar 1) jvs_nil))) jr_nil)))) (js_one (js_ret (jv_d jbl))) js_nil) (js_one (jif_s (tne hu (jr_v (jcomp sc__law_changed_right.nd (jc_zip m_zip (jr_v (jcall h_most_crossed hr (jvs_cons (jvar 10) jvs_nil))) (jr_v (jcall h_most_crossed hr (jvs_cons (jvar 1) jvs_nil)))) (blkOk_by (own := [(("a" : Str), 11), (("b" : Str), 12)]) (by kernel_rfl)) (fun _ _ _ _ _ => (jg_tup (jgs_cons (jg_name 11 sc__law_changed_right.nd) (jgs_cons (jg_name 12 sc__law_changed_right.nd) jgs_nil)))) (fun _ _ _ _ _ => (jts_one (tgt hu (jr_d (jvar 11)) (jr_d (jvar 12))))) (fun _ _ _ _ _ => jint))) (jr_v (jlst ja_nil))) (js_one (js_ret (jv_d jbl))) js_nil)))) js_nil))) (js_one (js_ret (jv_d (jand (jd_v (jle hu (jr_v (jcall h_each_day hr (jvs_cons (jvar 9) (jvs_cons (jvar 2) jvs_nil)))) (jr_v (jcall h_most hr (jvs_cons (jvar 1) jvs_nil))))) (jbone (jd_v (jle hu (jr_v (jcall h_widened hr (jvs_cons (jvar 9) jvs_nil))) (jr_v (jcall h_widened hr (jvs_cons (jvar 1) jvs_nil))))))))))))))))
theorem bd_law (B : Bn mg) (h : All P w K mg base k) (f : Addr) (cdv : Value) (A : Around) (outer : List PySem.Env) (s : Shared) (H : Hp) (E : XK) (hr : Room k (A.deeper (envOfC "law" (defScope s_law) s.heap.objs.size f cdv))) : JSs (cxOf CX0 P w K mg base ["script", "tape", "turn", "folk", "order", "over", "by", "name", "low", "high", "higher", "called"] "law" (defScope s_law) f cdv A outer s H E).nox ((defBody s_law).drop 1) (bl (callK tb k)) := by
  have hu : (A.deeper (envOfC "law" (defScope s_law) s.heap.objs.size f cdv)).units + 64 < cLine := by have := hr.un; omega
  have m_max := B.m_max
  have m_range := B.m_range
  have m_tuple := B.m_tuple
  have h__law_changed_right := h.h__law_changed_right
  have h__law_draw := h.h__law_draw
  have h__law_folk := h.h__law_folk
  have h__law_order := h.h__law_order
  have h__law_turned_over := h.h__law_turned_over
  have h_amounts := h.h_amounts
  have h_at_home := h.h_at_home
  have h_crossed := h.h_crossed
  have h_each_day := h.h_each_day
  have h_least := h.h_least
  have h_most := h.h_most
  have h_most_crossed := h.h_most_crossed
  have h_onlookers := h.h_onlookers
  have h_shares := h.h_shares
  have h_widened := h.h_widened
  exact (js_cons (js_for (ji_range1 m_range (jr_cons (jr_d jint) jr_nil)) (jg_name 2 sc_law.nd) (js_cons (js_asg sc_law.nd (jcall h__law_folk hr (jvs_tap (jtap 1) (jvs_cons jint jvs_nil)))) (js_cons (js_par2 sc_law.nd (jw_cons (jd_v (jcall h__law_order hr (jvs_tap (jtap 1) (jvs_cons (jvar 3) jvs_nil)))) (jw_cons (jd_v (jcall h__law_turned_over hr (jvs_cons (jvar 3) jvs_nil))) jw_nil))) (js_cons (jif_s (jtw (jwor (tne hu (jr_v (jcall h_crossed hr (jvs_cons (jvar 5) (jvs_cons (jvar 4) jvs_nil)))) (jr_v (jrev (jr_v (jcall h_crossed hr (jvs_cons (jvar 3) (jvs_cons (jvar 4) jvs_nil))))))) (jwor1 (tne hu (jr_v (jcall h_shares hr (jvs_cons (jvar 5) (jvs_cons (jvar 4) jvs_nil)))) (jr_v (jcall h_shares hr (jvs_cons (jvar 3) (jvs_cons (jvar 4) jvs_nil)))))))) (js_one (js_ret (jv_d jbl))) js_nil) (js_cons (jif_s (jtw (jwor (tne hu (jr_v (jcall h_most_crossed hr (jvs_cons (jvar 5) jvs_nil))) (jr_v (jrev (jr_v (jcall h_most_crossed hr (jvs_cons (jvar 3) jvs_nil)))))) (jwor1 (tne hu (jr_v (jcall h_least hr (jvs_cons (jvar 5) jvs_nil))) (jr_v (jcall h_least hr (jvs_cons (jvar 3) jvs_nil))))))) (js_one (js_ret (jv_d jbl))) js_nil) (js_cons (jif_s (jtw (jwor (tne hu (jr_v (jcall h_amounts hr (jvs_cons (jvar 5) jvs_nil))) (jr_v (jcall h_amounts hr (jvs_cons (jvar 3) jvs_nil)))) (jwor1 (tne hu (jr_v (jcall h_onlookers hr (jvs_cons (jvar 5) jvs_nil))) (jr_v (jcall h_onlookers hr (jvs_cons (jvar 3) jvs_nil))))))) (js_one (js_ret (jv_d jbl))) js_nil) (js_cons (jif_s (jtw (jwor (tne hu (jr_v (jcall h_at_home hr (jvs_cons (jvar 5) jvs_nil))) (jr_v (jcall h_at_home hr (jvs_cons (jvar 3) jvs_nil)))) (jwor1 (tne hu (jr_v (jcall h_widened hr (jvs_cons (jvar 5) jvs_nil))) (jr_v (jcall h_widened hr (jvs_cons (jvar 3) jvs_nil))))))) (js_one (js_ret (jv_d jbl))) js_nil) (js_cons (js_asg sc_law.nd (jcall h__law_draw hr (jvs_tap (jtap 1) (jvs_cons (jd_v (jsub (jr_d jint) (jr_v (jmaxL m_max hu (jr_cons (jr_v (jcomp sc_law.nd (jc_bor (jr_d (jvar 3))) (blkOk_by (own := [(("name" : Str), 7), (("low" : Str), 8), (("high" : Str), 9)]) (by kernel_rfl)) (fun _ _ _ _ _ => (jg_tup (jgs_cons (jg_name 7 sc_law.nd) (jgs_cons (jg_name 8 sc_law.nd) (jgs_cons (jg_name 9 sc_law.nd) jgs_nil))))) (fun _ _ _ _ _ => jts_nil) (fun _ _ _ _ _ => (jvar 9)))) jr_nil))))) jvs_nil)))) (js_cons (js_asg sc_law.nd (jtuple m_tuple (jr_cons (jr_v (jcomp sc_law.nd (jc_bor (jr_d (jvar 3))) (blkOk_by (own := [(("name" : Str), 7), (("low" : Str), 8), (("high" : Str), 9)]) (by kernel_rfl)) (fun _ _ _ _ _ => (jg_tup (jgs_cons (jg_name 7 sc_law.nd) (jgs_cons (jg_name 8 sc_law.nd) (jgs_cons (jg_name 9 sc_law.nd) jgs_nil))))) (fun _ _ _ _ _ => jts_nil) (fun _ _ _ _ _ => (jtup (ja_cons (jd_v (jadd (jr_d jstr) (jr_d (jvar 7)))) (ja_cons (jd_v (jadd (jr_d (jvar 8)) (jr_d (jvar 6)))) (ja_cons (jd_v (jadd (jr_d (jvar 9)) (jr_d (jvar 6)))) ja_nil))))))) jr_nil))) (js_cons (js_asg sc_law.nd (jtuple m_tuple (jr_cons (jr_v (jcomp sc_law.nd (jc_bor (jr_d (jvar 4))) (blkOk_by (own := [(("name" : Str), 7)]) (by kernel_rfl)) (fun _ _ _ _ _ => (jg_name 7 sc_law.nd)) (fun _ _ _ _ _ => jts_nil) (fun _ _ _ _ _ => (jd_v (jadd (jr_d jstr) (jr_d (jvar 7))))))) jr_nil))) (js_cons (jif_s (jtw (jwor (tne hu (jr_v (jcall h_each_day hr (jvs_cons (jvar 10) (jvs_cons (jvar 11) jvs_nil)))) (jr_v (jcall h_each_day hr (jvs_cons (jvar 3) (jvs_cons (jvar 4) jvs_nil))))) (jwor1 (tne hu (jr_v (jcall h_amounts hr (jvs_cons (jvar 10) jvs_nil))) (jr_v (jcall h_amounts hr (jvs_cons (jvar 3) jvs_nil))))))) (js_one (js_ret (jv_d jbl))) js_nil) (js_cons (jif_s (jtw (jwor (tne hu (jr_v (jcall h_most hr (jvs_cons (jvar 10) jvs_nil))) (jr_v (jcall h_most hr (jvs_cons (jvar 3) jvs_nil)))) (jwor1 (tne hu (jr_v (jcall h_onlookers hr (jvs_cons (jvar 10) jvs_nil))) (jr_v (jtuple m_tuple (jr_cons (jr_v (jcomp sc_law.nd (jc_bor (jr_v (jcall h_onlookers hr (jvs_cons (jvar 3) jvs_nil)))) (blkOk_by (own := [(("name" : Str), 7)]) (by kernel_rfl)) (fun _ _ _ _ _ => (jg_name 7 sc_law.nd)) (fun _ _ _ _ _ => jts_nil) (fun _ _ _ _ _ => (jd_v (jadd (jr_d jstr) (jr_d (jvar 7))))))) jr_nil))))))) (js_one (js_ret (jv_d jbl))) js_nil) (js_one (jif_s (jtnot (tval (jcall h__law_changed_right hr (jvs_tap (jtap 1) (jvs_cons (jvar 3) (jvs_cons (jvar 4) jvs_nil)))))) (js_one (js_ret (jv_d jbl))) js_nil)))))))))))))) (js_one (js_ret (jv_d jbl))))
theorem all_k (F : Fds K mg) (B : Bn mg) : ∀ k, All P w K mg base k
  | 0 => ⟨has_zero F.f_suited _ rfl, has_zero F.f_settings _ rfl, has_zero F.f_turned _ rfl, has_zero F.f_first_day _ rfl, has_zero F.f_each_day _ rfl, has_zero F.f_moves _ rfl, has_zero F.f_crossed _ rfl, has_zero F.f_shares _ rfl, has_zero F.f_names_of _ rfl, has_zero F.f_greatest_low _ rfl, has_zero F.f_least_high _ rfl, has_zero F.f_lesser_side _ rfl, has_zero F.f_most_crossed _ rfl, has_zero F.f_most _ rfl, has_zero F.f_least _ rfl, has_zero F.f_orders _ rfl, has_zero F.f_amounts _ rfl, has_zero F.f_most_by _ rfl, has_zero F.f_onlookers _ rfl, has_zero F.f_at_home _ rfl, has_zero F.f_widened _ rfl, has_zero F.f__law_draw _ rfl, has_zero F.f__law_any_order _ rfl, has_zero F.f__law_folk _ rfl, has_zero F.f__law_order _ rfl, has_zero F.f__law_turned_over _ rfl, has_zero F.f__law_changed_right _ rfl⟩
  | k + 1 => ⟨has_step (b := b15) F.f_suited sc_suited _ _ rfl rfl rfl (bd_suited B (all_k F B k)), has_step (b := b16) F.f_settings sc_settings _ _ rfl rfl rfl (bd_settings B (all_k F B k)), has_step (b := b17) F.f_turned sc_turned _ _ rfl rfl rfl (bd_turned B (all_k F B k)), has_step (b := b26) F.f_first_day sc_first_day _ _ rfl rfl rfl (bd_first_day B (all_k F B k)), has_step (b := b28) F.f_each_day sc_each_day _ _ rfl rfl rfl (bd_each_day B (all_k F B k)), has_step (b := b35) F.f_moves sc_moves _ _ rfl rfl rfl (bd_moves B (all_k F B k)), has_step (b := b36) F.f_crossed sc_crossed _ _ rfl rfl rfl (bd_crossed B (all_k F B k)), has_step (b := b37) F.f_shares sc_shares _ _ rfl rfl rfl (bd_shares B (all_k F B k)), has_step (b := b46) F.f_names_of sc_names_of _ _ rfl rfl rfl (bd_names_of B (all_k F B k)), has_step (b := b47) F.f_greatest_low sc_greatest_low _ _ rfl rfl rfl (bd_greatest_low B (all_k F B k)), has_step (b := b48) F.f_least_high sc_least_high _ _ rfl rfl rfl (bd_least_high B (all_k F B k)), has_step (b := b39) F.f_lesser_side sc_lesser_side _ _ rfl rfl rfl (bd_lesser_side B (all_k F B k)), has_step (b := b40) F.f_most_crossed sc_most_crossed _ _ rfl rfl rfl (bd_most_crossed B (all_k F B k)), has_step (b := b41) F.f_most sc_most _ _ rfl rfl rfl (bd_most B (all_k F B k)), has_step (b := b49) F.f_least sc_least _ _ rfl rfl rfl (bd_least B (all_k F B k)), has_step (b := b51) F.f_orders sc_orders _ _ rfl rfl rfl (bd_orders B (all_k F B k)), has_step (b := b52) F.f_amounts sc_amounts _ _ rfl rfl rfl (bd_amounts B (all_k F B k)), has_step (b := b54) F.f_most_by sc_most_by _ _ rfl rfl rfl (bd_most_by B (all_k F B k)), has_step (b := b55) F.f_onlookers sc_onlookers _ _ rfl rfl rfl (bd_onlookers B (all_k F B k)), has_step (b := b59) F.f_at_home sc_at_home _ _ rfl rfl rfl (bd_at_home B (all_k F B k)), has_step (b := b60) F.f_widened sc_widened _ _ rfl rfl rfl (bd_widened B (all_k F B k)), has_step (b := b4) F.f__law_draw sc__law_draw _ _ rfl rfl rfl (bd__law_draw B (all_k F B k)), has_step (b := b30) F.f__law_any_order sc__law_any_order _ _ rfl rfl rfl (bd__law_any_order B (all_k F B k)), has_step (b := b12) F.f__law_folk sc__law_folk _ _ rfl rfl rfl (bd__law_folk B (all_k F B k)), has_step (b := b31) F.f__law_order sc__law_order _ _ rfl rfl rfl (bd__law_order B (all_k F B k)), has_step (b := b66) F.f__law_turned_over sc__law_turned_over _ _ rfl rfl rfl (bd__law_turned_over B (all_k F B k)), has_step (b := b67) F.f__law_changed_right sc__law_changed_right _ _ rfl rfl rfl (bd__law_changed_right B (all_k F B k))⟩
theorem ok_law {f : Addr} {fd : FuncData} (F : Fun K "law" "law" s_law f fd) (B : Bn mg) (h : All P w K mg base 40) (hp : ∀ ns : List Int, ns.length ≤ 63 → ∃ τ, bl (callK tb 40) (lawE 12) ⟨ns, 0, 0⟩ = some (.rt (.sh (.bool true)), τ)) : FnOk P w K mg base CX0 41 f fd ["script"] (spLaw K) := by
  refine F.ok sc_law (fun vs H Q E h => ?_) fun cdv A outer s H vs Q E hr hs => ⟨_, pss_cons (ps_set (i := 1) sc_law.nd rfl (.inl rfl) (pe_lst (pa_cons (pe_callTy call_list_of rfl B.m_list (by decide +kernel) (pa_cons (pe_var (i := 0) rfl (.inl rfl)) pa_nil) (by decide) (by decide)) (pa_cons pe_int (pa_cons pe_int pa_nil))))) (bd_law B h f cdv A outer s H E hr), law_start (N := ["script", "tape", "turn", "folk", "order", "over", "by", "name", "low", "high", "higher", "called"]) (by decide) hs hp⟩
  obtain ⟨a, ns, rfl, _⟩ := h
  rfl
end
theorem all_mk {l : PySem.W.OpenLaw} {w : World} {K : PySem.W.Frag} {h : Heap} {mg : Str → Option Value} {fa : Addr} (X : K.In h) (G : h.Ns mainGlobals mg) (hfa : mg "law" = some (.ref fa))
    {f0 : Addr} {od0 an0 : Option Addr} {sl0 : Array (Option Value)} {oc0 kV0 dc0 pm0 cd0 ct0 : Value}
    {f1 : Addr} {od1 an1 : Option Addr} {sl1 : Array (Option Value)} {oc1 kV1 dc1 pm1 cd1 ct1 : Value}
    {f2 : Addr} {od2 an2 : Option Addr} {sl2 : Array (Option Value)} {oc2 kV2 dc2 pm2 cd2 ct2 : Value}
    {f3 : Addr} {od3 an3 : Option Addr} {sl3 : Array (Option Value)} {oc3 kV3 dc3 pm3 cd3 ct3 : Value}
    {f4 : Addr} {od4 an4 : Option Addr} {sl4 : Array (Option Value)} {oc4 kV4 dc4 pm4 cd4 ct4 : Value}
    {f5 : Addr} {od5 an5 : Option Addr} {sl5 : Array (Option Value)} {oc5 kV5 dc5 pm5 cd5 ct5 : Value}
    {f6 : Addr} {od6 an6 : Option Addr} {sl6 : Array (Option Value)} {oc6 kV6 dc6 pm6 cd6 ct6 : Value}
    {f7 : Addr} {od7 an7 : Option Addr} {sl7 : Array (Option Value)} {oc7 kV7 dc7 pm7 cd7 ct7 : Value}
    {f8 : Addr} {od8 an8 : Option Addr} {sl8 : Array (Option Value)} {oc8 kV8 dc8 pm8 cd8 ct8 : Value}
    {f9 : Addr} {od9 an9 : Option Addr} {sl9 : Array (Option Value)} {oc9 kV9 dc9 pm9 cd9 ct9 : Value}
    {f10 : Addr} {od10 an10 : Option Addr} {sl10 : Array (Option Value)} {oc10 kV10 dc10 pm10 cd10 ct10 : Value}
    {f11 : Addr} {od11 an11 : Option Addr} {sl11 : Array (Option Value)} {oc11 kV11 dc11 pm11 cd11 ct11 : Value}
    {f12 : Addr} {od12 an12 : Option Addr} {sl12 : Array (Option Value)} {oc12 kV12 dc12 pm12 cd12 ct12 : Value}
    {f13 : Addr} {od13 an13 : Option Addr} {sl13 : Array (Option Value)} {oc13 kV13 dc13 pm13 cd13 ct13 : Value}
    {f14 : Addr} {od14 an14 : Option Addr} {sl14 : Array (Option Value)} {oc14 kV14 dc14 pm14 cd14 ct14 : Value}
    {f15 : Addr} {od15 an15 : Option Addr} {sl15 : Array (Option Value)} {oc15 kV15 dc15 pm15 cd15 ct15 : Value}
    {f16 : Addr} {od16 an16 : Option Addr} {sl16 : Array (Option Value)} {oc16 kV16 dc16 pm16 cd16 ct16 : Value}
    {f17 : Addr} {od17 an17 : Option Addr} {sl17 : Array (Option Value)} {oc17 kV17 dc17 pm17 cd17 ct17 : Value}
    {f18 : Addr} {od18 an18 : Option Addr} {sl18 : Array (Option Value)} {oc18 kV18 dc18 pm18 cd18 ct18 : Value}
    {f19 : Addr} {od19 an19 : Option Addr} {sl19 : Array (Option Value)} {oc19 kV19 dc19 pm19 cd19 ct19 : Value}
    {f20 : Addr} {od20 an20 : Option Addr} {sl20 : Array (Option Value)} {oc20 kV20 dc20 pm20 cd20 ct20 : Value}
    {f21 : Addr} {od21 an21 : Option Addr} {sl21 : Array (Option Value)} {oc21 kV21 dc21 pm21 cd21 ct21 : Value}
    {f22 : Addr} {od22 an22 : Option Addr} {sl22 : Array (Option Value)} {oc22 kV22 dc22 pm22 cd22 ct22 : Value}
    {f23 : Addr} {od23 an23 : Option Addr} {sl23 : Array (Option Value)} {oc23 kV23 dc23 pm23 cd23 ct23 : Value}
    {f24 : Addr} {od24 an24 : Option Addr} {sl24 : Array (Option Value)} {oc24 kV24 dc24 pm24 cd24 ct24 : Value}
    {f25 : Addr} {od25 an25 : Option Addr} {sl25 : Array (Option Value)} {oc25 kV25 dc25 pm25 cd25 ct25 : Value}
    {f26 : Addr} {od26 an26 : Option Addr} {sl26 : Array (Option Value)} {oc26 kV26 dc26 pm26 cd26 ct26 : Value}
    {f27 : Addr} {od27 an27 : Option Addr} {sl27 : Array (Option Value)} {oc27 kV27 dc27 pm27 cd27 ct27 : Value}
    (a0 : PySem.W.nsIn K mainGlobals "suited" = some (some (.ref f0)))
    (l0 : K.lookup f0 = some ⟨oc0, od0, .func (PySem.W.fnOf "suited" "suited" (defArgs s_suited) (defBody s_suited) (defScope s_suited) .none kV0 dc0 pm0 an0 cd0 ct0), sl0⟩)
    (c0 : PySem.W.codeIn K cd0 "suited" = true) (k0 : PySem.W.keepIn K (.ref f0) = true)
    (a1 : PySem.W.nsIn K mainGlobals "settings" = some (some (.ref f1)))
    (l1 : K.lookup f1 = some ⟨oc1, od1, .func (PySem.W.fnOf "settings" "settings" (defArgs s_settings) (defBody s_settings) (defScope s_settings) .none kV1 dc1 pm1 an1 cd1 ct1), sl1⟩)
    (c1 : PySem.W.codeIn K cd1 "settings" = true) (k1 : PySem.W.keepIn K (.ref f1) = true)
    (a2 : PySem.W.nsIn K mainGlobals "turned" = some (some (.ref f2)))
    (l2 : K.lookup f2 = some ⟨oc2, od2, .func (PySem.W.fnOf "turned" "turned" (defArgs s_turned) (defBody s_turned) (defScope s_turned) .none kV2 dc2 pm2 an2 cd2 ct2), sl2⟩)
    (c2 : PySem.W.codeIn K cd2 "turned" = true) (k2 : PySem.W.keepIn K (.ref f2) = true)
    (a3 : PySem.W.nsIn K mainGlobals "first_day" = some (some (.ref f3)))
    (l3 : K.lookup f3 = some ⟨oc3, od3, .func (PySem.W.fnOf "first_day" "first_day" (defArgs s_first_day) (defBody s_first_day) (defScope s_first_day) .none kV3 dc3 pm3 an3 cd3 ct3), sl3⟩)
    (c3 : PySem.W.codeIn K cd3 "first_day" = true) (k3 : PySem.W.keepIn K (.ref f3) = true)
    (a4 : PySem.W.nsIn K mainGlobals "each_day" = some (some (.ref f4)))
    (l4 : K.lookup f4 = some ⟨oc4, od4, .func (PySem.W.fnOf "each_day" "each_day" (defArgs s_each_day) (defBody s_each_day) (defScope s_each_day) .none kV4 dc4 pm4 an4 cd4 ct4), sl4⟩)
    (c4 : PySem.W.codeIn K cd4 "each_day" = true) (k4 : PySem.W.keepIn K (.ref f4) = true)
    (a5 : PySem.W.nsIn K mainGlobals "moves" = some (some (.ref f5)))
    (l5 : K.lookup f5 = some ⟨oc5, od5, .func (PySem.W.fnOf "moves" "moves" (defArgs s_moves) (defBody s_moves) (defScope s_moves) .none kV5 dc5 pm5 an5 cd5 ct5), sl5⟩)
    (c5 : PySem.W.codeIn K cd5 "moves" = true) (k5 : PySem.W.keepIn K (.ref f5) = true)
    (a6 : PySem.W.nsIn K mainGlobals "crossed" = some (some (.ref f6)))
    (l6 : K.lookup f6 = some ⟨oc6, od6, .func (PySem.W.fnOf "crossed" "crossed" (defArgs s_crossed) (defBody s_crossed) (defScope s_crossed) .none kV6 dc6 pm6 an6 cd6 ct6), sl6⟩)
    (c6 : PySem.W.codeIn K cd6 "crossed" = true) (k6 : PySem.W.keepIn K (.ref f6) = true)
    (a7 : PySem.W.nsIn K mainGlobals "shares" = some (some (.ref f7)))
    (l7 : K.lookup f7 = some ⟨oc7, od7, .func (PySem.W.fnOf "shares" "shares" (defArgs s_shares) (defBody s_shares) (defScope s_shares) .none kV7 dc7 pm7 an7 cd7 ct7), sl7⟩)
    (c7 : PySem.W.codeIn K cd7 "shares" = true) (k7 : PySem.W.keepIn K (.ref f7) = true)
    (a8 : PySem.W.nsIn K mainGlobals "names_of" = some (some (.ref f8)))
    (l8 : K.lookup f8 = some ⟨oc8, od8, .func (PySem.W.fnOf "names_of" "names_of" (defArgs s_names_of) (defBody s_names_of) (defScope s_names_of) .none kV8 dc8 pm8 an8 cd8 ct8), sl8⟩)
    (c8 : PySem.W.codeIn K cd8 "names_of" = true) (k8 : PySem.W.keepIn K (.ref f8) = true)
    (a9 : PySem.W.nsIn K mainGlobals "greatest_low" = some (some (.ref f9)))
    (l9 : K.lookup f9 = some ⟨oc9, od9, .func (PySem.W.fnOf "greatest_low" "greatest_low" (defArgs s_greatest_low) (defBody s_greatest_low) (defScope s_greatest_low) .none kV9 dc9 pm9 an9 cd9 ct9), sl9⟩)
    (c9 : PySem.W.codeIn K cd9 "greatest_low" = true) (k9 : PySem.W.keepIn K (.ref f9) = true)
    (a10 : PySem.W.nsIn K mainGlobals "least_high" = some (some (.ref f10)))
    (l10 : K.lookup f10 = some ⟨oc10, od10, .func (PySem.W.fnOf "least_high" "least_high" (defArgs s_least_high) (defBody s_least_high) (defScope s_least_high) .none kV10 dc10 pm10 an10 cd10 ct10), sl10⟩)
    (c10 : PySem.W.codeIn K cd10 "least_high" = true) (k10 : PySem.W.keepIn K (.ref f10) = true)
    (a11 : PySem.W.nsIn K mainGlobals "lesser_side" = some (some (.ref f11)))
    (l11 : K.lookup f11 = some ⟨oc11, od11, .func (PySem.W.fnOf "lesser_side" "lesser_side" (defArgs s_lesser_side) (defBody s_lesser_side) (defScope s_lesser_side) .none kV11 dc11 pm11 an11 cd11 ct11), sl11⟩)
    (c11 : PySem.W.codeIn K cd11 "lesser_side" = true) (k11 : PySem.W.keepIn K (.ref f11) = true)
    (a12 : PySem.W.nsIn K mainGlobals "most_crossed" = some (some (.ref f12)))
    (l12 : K.lookup f12 = some ⟨oc12, od12, .func (PySem.W.fnOf "most_crossed" "most_crossed" (defArgs s_most_crossed) (defBody s_most_crossed) (defScope s_most_crossed) .none kV12 dc12 pm12 an12 cd12 ct12), sl12⟩)
    (c12 : PySem.W.codeIn K cd12 "most_crossed" = true) (k12 : PySem.W.keepIn K (.ref f12) = true)
    (a13 : PySem.W.nsIn K mainGlobals "most" = some (some (.ref f13)))
    (l13 : K.lookup f13 = some ⟨oc13, od13, .func (PySem.W.fnOf "most" "most" (defArgs s_most) (defBody s_most) (defScope s_most) .none kV13 dc13 pm13 an13 cd13 ct13), sl13⟩)
    (c13 : PySem.W.codeIn K cd13 "most" = true) (k13 : PySem.W.keepIn K (.ref f13) = true)
    (a14 : PySem.W.nsIn K mainGlobals "least" = some (some (.ref f14)))
    (l14 : K.lookup f14 = some ⟨oc14, od14, .func (PySem.W.fnOf "least" "least" (defArgs s_least) (defBody s_least) (defScope s_least) .none kV14 dc14 pm14 an14 cd14 ct14), sl14⟩)
    (c14 : PySem.W.codeIn K cd14 "least" = true) (k14 : PySem.W.keepIn K (.ref f14) = true)
    (a15 : PySem.W.nsIn K mainGlobals "orders" = some (some (.ref f15)))
    (l15 : K.lookup f15 = some ⟨oc15, od15, .func (PySem.W.fnOf "orders" "orders" (defArgs s_orders) (defBody s_orders) (defScope s_orders) .none kV15 dc15 pm15 an15 cd15 ct15), sl15⟩)
    (c15 : PySem.W.codeIn K cd15 "orders" = true) (k15 : PySem.W.keepIn K (.ref f15) = true)
    (a16 : PySem.W.nsIn K mainGlobals "amounts" = some (some (.ref f16)))
    (l16 : K.lookup f16 = some ⟨oc16, od16, .func (PySem.W.fnOf "amounts" "amounts" (defArgs s_amounts) (defBody s_amounts) (defScope s_amounts) .none kV16 dc16 pm16 an16 cd16 ct16), sl16⟩)
    (c16 : PySem.W.codeIn K cd16 "amounts" = true) (k16 : PySem.W.keepIn K (.ref f16) = true)
    (a17 : PySem.W.nsIn K mainGlobals "most_by" = some (some (.ref f17)))
    (l17 : K.lookup f17 = some ⟨oc17, od17, .func (PySem.W.fnOf "most_by" "most_by" (defArgs s_most_by) (defBody s_most_by) (defScope s_most_by) .none kV17 dc17 pm17 an17 cd17 ct17), sl17⟩)
    (c17 : PySem.W.codeIn K cd17 "most_by" = true) (k17 : PySem.W.keepIn K (.ref f17) = true)
    (a18 : PySem.W.nsIn K mainGlobals "onlookers" = some (some (.ref f18)))
    (l18 : K.lookup f18 = some ⟨oc18, od18, .func (PySem.W.fnOf "onlookers" "onlookers" (defArgs s_onlookers) (defBody s_onlookers) (defScope s_onlookers) .none kV18 dc18 pm18 an18 cd18 ct18), sl18⟩)
    (c18 : PySem.W.codeIn K cd18 "onlookers" = true) (k18 : PySem.W.keepIn K (.ref f18) = true)
    (a19 : PySem.W.nsIn K mainGlobals "at_home" = some (some (.ref f19)))
    (l19 : K.lookup f19 = some ⟨oc19, od19, .func (PySem.W.fnOf "at_home" "at_home" (defArgs s_at_home) (defBody s_at_home) (defScope s_at_home) .none kV19 dc19 pm19 an19 cd19 ct19), sl19⟩)
    (c19 : PySem.W.codeIn K cd19 "at_home" = true) (k19 : PySem.W.keepIn K (.ref f19) = true)
    (a20 : PySem.W.nsIn K mainGlobals "widened" = some (some (.ref f20)))
    (l20 : K.lookup f20 = some ⟨oc20, od20, .func (PySem.W.fnOf "widened" "widened" (defArgs s_widened) (defBody s_widened) (defScope s_widened) .none kV20 dc20 pm20 an20 cd20 ct20), sl20⟩)
    (c20 : PySem.W.codeIn K cd20 "widened" = true) (k20 : PySem.W.keepIn K (.ref f20) = true)
    (a21 : PySem.W.nsIn K mainGlobals "_law_draw" = some (some (.ref f21)))
    (l21 : K.lookup f21 = some ⟨oc21, od21, .func (PySem.W.fnOf "_law_draw" "_law_draw" (defArgs s__law_draw) (defBody s__law_draw) (defScope s__law_draw) .none kV21 dc21 pm21 an21 cd21 ct21), sl21⟩)
    (c21 : PySem.W.codeIn K cd21 "_law_draw" = true) (k21 : PySem.W.keepIn K (.ref f21) = true)
    (a22 : PySem.W.nsIn K mainGlobals "_law_any_order" = some (some (.ref f22)))
    (l22 : K.lookup f22 = some ⟨oc22, od22, .func (PySem.W.fnOf "_law_any_order" "_law_any_order" (defArgs s__law_any_order) (defBody s__law_any_order) (defScope s__law_any_order) .none kV22 dc22 pm22 an22 cd22 ct22), sl22⟩)
    (c22 : PySem.W.codeIn K cd22 "_law_any_order" = true) (k22 : PySem.W.keepIn K (.ref f22) = true)
    (a23 : PySem.W.nsIn K mainGlobals "_law_folk" = some (some (.ref f23)))
    (l23 : K.lookup f23 = some ⟨oc23, od23, .func (PySem.W.fnOf "_law_folk" "_law_folk" (defArgs s__law_folk) (defBody s__law_folk) (defScope s__law_folk) .none kV23 dc23 pm23 an23 cd23 ct23), sl23⟩)
    (c23 : PySem.W.codeIn K cd23 "_law_folk" = true) (k23 : PySem.W.keepIn K (.ref f23) = true)
    (a24 : PySem.W.nsIn K mainGlobals "_law_order" = some (some (.ref f24)))
    (l24 : K.lookup f24 = some ⟨oc24, od24, .func (PySem.W.fnOf "_law_order" "_law_order" (defArgs s__law_order) (defBody s__law_order) (defScope s__law_order) .none kV24 dc24 pm24 an24 cd24 ct24), sl24⟩)
    (c24 : PySem.W.codeIn K cd24 "_law_order" = true) (k24 : PySem.W.keepIn K (.ref f24) = true)
    (a25 : PySem.W.nsIn K mainGlobals "_law_turned_over" = some (some (.ref f25)))
    (l25 : K.lookup f25 = some ⟨oc25, od25, .func (PySem.W.fnOf "_law_turned_over" "_law_turned_over" (defArgs s__law_turned_over) (defBody s__law_turned_over) (defScope s__law_turned_over) .none kV25 dc25 pm25 an25 cd25 ct25), sl25⟩)
    (c25 : PySem.W.codeIn K cd25 "_law_turned_over" = true) (k25 : PySem.W.keepIn K (.ref f25) = true)
    (a26 : PySem.W.nsIn K mainGlobals "_law_changed_right" = some (some (.ref f26)))
    (l26 : K.lookup f26 = some ⟨oc26, od26, .func (PySem.W.fnOf "_law_changed_right" "_law_changed_right" (defArgs s__law_changed_right) (defBody s__law_changed_right) (defScope s__law_changed_right) .none kV26 dc26 pm26 an26 cd26 ct26), sl26⟩)
    (c26 : PySem.W.codeIn K cd26 "_law_changed_right" = true) (k26 : PySem.W.keepIn K (.ref f26) = true)
    (a27 : PySem.W.nsIn K mainGlobals "law" = some (some (.ref f27)))
    (l27 : K.lookup f27 = some ⟨oc27, od27, .func (PySem.W.fnOf "law" "law" (defArgs s_law) (defBody s_law) (defScope s_law) .none kV27 dc27 pm27 an27 cd27 ct27), sl27⟩)
    (c27 : PySem.W.codeIn K cd27 "law" = true) (k27 : PySem.W.keepIn K (.ref f27) = true)
    (z_abs : PySem.W.nsIn K mainGlobals "abs" = some none)
    (z_len : PySem.W.nsIn K mainGlobals "len" = some none)
    (z_list : PySem.W.nsIn K mainGlobals "list" = some none)
    (z_max : PySem.W.nsIn K mainGlobals "max" = some none)
    (z_min : PySem.W.nsIn K mainGlobals "min" = some none)
    (z_range : PySem.W.nsIn K mainGlobals "range" = some none)
    (z_sorted : PySem.W.nsIn K mainGlobals "sorted" = some none)
    (z_sum : PySem.W.nsIn K mainGlobals "sum" = some none)
    (z_tuple : PySem.W.nsIn K mainGlobals "tuple" = some none)
    (z_zip : PySem.W.nsIn K mainGlobals "zip" = some none)
    {t_TOP : Tok} (y_TOP : PySem.W.nsIn K mainGlobals "TOP" = some (some (.int 40 t_TOP)))
    (hp : ∀ ns : List Int, ns.length ≤ 63 → ∃ τ, bl (callK tb 40) (lawE 12) ⟨ns, 0, 0⟩ = some (.rt (.sh (.bool true)), τ)) :
    ∃ fd : FuncData, (∀ (s : Shared) (v : Value), BindsTo s fd ⟨[v], []⟩ [("script", v)]) ∧ ∀ base : Heap, K.In base → base.Ns mainGlobals mg → FnOk l.prog w K mg base CX0 41 fa fd ["script"] (spLaw K) := by
  have e := hfa.symm.trans (PySem.W.mg_of X G a27)
  cases e
  have B : Bn mg := ⟨PySem.W.mg_none_of X G z_abs, PySem.W.mg_none_of X G z_len, PySem.W.mg_none_of X G z_list, PySem.W.mg_none_of X G z_max, PySem.W.mg_none_of X G z_min, PySem.W.mg_none_of X G z_range, PySem.W.mg_none_of X G z_sorted, PySem.W.mg_none_of X G z_sum, PySem.W.mg_none_of X G z_tuple, PySem.W.mg_none_of X G z_zip, ⟨_, PySem.W.mg_of X G y_TOP⟩⟩
  have F : Fds K mg := ⟨(fd_mk X G a0 l0 c0 k0 fun _ _ _ _ _ _ us hl => match us, hl with | [_, _], _ => rfl), (fd_mk X G a1 l1 c1 k1 fun _ _ _ _ _ _ us hl => match us, hl with | [_, _, _], _ => rfl), (fd_mk X G a2 l2 c2 k2 fun _ _ _ _ _ _ us hl => match us, hl with | [_, _, _], _ => rfl), (fd_mk X G a3 l3 c3 k3 fun _ _ _ _ _ _ us hl => match us, hl with | [_, _, _], _ => rfl), (fd_mk X G a4 l4 c4 k4 fun _ _ _ _ _ _ us hl => match us, hl with | [_, _], _ => rfl), (fd_mk X G a5 l5 c5 k5 fun _ _ _ _ _ _ us hl => match us, hl with | [_, _], _ => rfl), (fd_mk X G a6 l6 c6 k6 fun _ _ _ _ _ _ us hl => match us, hl with | [_, _], _ => rfl), (fd_mk X G a7 l7 c7 k7 fun _ _ _ _ _ _ us hl => match us, hl with | [_, _], _ => rfl), (fd_mk X G a8 l8 c8 k8 fun _ _ _ _ _ _ us hl => match us, hl with | [_], _ => rfl), (fd_mk X G a9 l9 c9 k9 fun _ _ _ _ _ _ us hl => match us, hl with | [_], _ => rfl), (fd_mk X G a10 l10 c10 k10 fun _ _ _ _ _ _ us hl => match us, hl with | [_], _ => rfl), (fd_mk X G a11 l11 c11 k11 fun _ _ _ _ _ _ us hl => match us, hl with | [_, _], _ => rfl), (fd_mk X G a12 l12 c12 k12 fun _ _ _ _ _ _ us hl => match us, hl with | [_], _ => rfl), (fd_mk X G a13 l13 c13 k13 fun _ _ _ _ _ _ us hl => match us, hl with | [_], _ => rfl), (fd_mk X G a14 l14 c14 k14 fun _ _ _ _ _ _ us hl => match us, hl with | [_], _ => rfl), (fd_mk X G a15 l15 c15 k15 fun _ _ _ _ _ _ us hl => match us, hl with | [_], _ => rfl), (fd_mk X G a16 l16 c16 k16 fun _ _ _ _ _ _ us hl => match us, hl with | [_], _ => rfl), (fd_mk X G a17 l17 c17 k17 fun _ _ _ _ _ _ us hl => match us, hl with | [_, _], _ => rfl), (fd_mk X G a18 l18 c18 k18 fun _ _ _ _ _ _ us hl => match us, hl with | [_], _ => rfl), (fd_mk X G a19 l19 c19 k19 fun _ _ _ _ _ _ us hl => match us, hl with | [_], _ => rfl), (fd_mk X G a20 l20 c20 k20 fun _ _ _ _ _ _ us hl => match us, hl with | [_], _ => rfl), (fd_mk X G a21 l21 c21 k21 fun _ _ _ _ _ _ us hl => match us, hl with | [_, _], _ => rfl), (fd_mk X G a22 l22 c22 k22 fun _ _ _ _ _ _ us hl => match us, hl with | [_, _], _ => rfl), (fd_mk X G a23 l23 c23 k23 fun _ _ _ _ _ _ us hl => match us, hl with | [_, _], _ => rfl), (fd_mk X G a24 l24 c24 k24 fun _ _ _ _ _ _ us hl => match us, hl with | [_, _], _ => rfl), (fd_mk X G a25 l25 c25 k25 fun _ _ _ _ _ _ us hl => match us, hl with | [_], _ => rfl), (fd_mk X G a26 l26 c26 k26 fun _ _ _ _ _ _ us hl => match us, hl with | [_, _, _], _ => rfl)⟩
  exact ⟨PySem.W.fnOf "law" "law" (defArgs s_law) (defBody s_law) (defScope s_law) .none kV27 dc27 pm27 an27 cd27 ct27, fun s v => .of_eq rfl, fun base _ _ => ok_law (fun_mk l27 c27 k27) B (all_k F B 40) hp⟩
end Pv
open PySem PyProof.Rows PySem.W
set_option maxHeartbeats 0 in
theorem PySem.Challenge.cw_warmwheel_k10_whole_scale_turned_and_fol_holds : PySem.Challenge.rw_warmwheel_k10_whole_scale_turned_and_fol.Holds := by
  w_on
  o_law
  k_head
  (case hw => w_witness2)
  k_fill
  refine L2.walk_of (l := PySem.Challenge.rw_warmwheel_k10_whole_scale_turned_and_fol) (n := 63) (k := 41) (x := "script") (CX := fun _ => L2.CX0) (sp := fun w => Pv.spLaw _) rfl (by decide) rfl ⟨rfl, by decide, by decide⟩ (fun w h Y => PySem.W.kIn_of Y) ?F (fun _ _ a ns hl _ hS => ⟨a, ns, rfl, hS, hl, fun _ => rfl⟩) (fun _ _ _ _ _ h => h)
  case F =>
    intro w mg fa h KX G hmg
    refine' Pv.all_mk KX G hmg ?a0 ?l0 ?c0 ?k0 ?a1 ?l1 ?c1 ?k1 ?a2 ?l2 ?c2 ?k2 ?a3 ?l3 ?c3 ?k3 ?a4 ?l4 ?c4 ?k4 ?a5 ?l5 ?c5 ?k5 ?a6 ?l6 ?c6 ?k6 ?a7 ?l7 ?c7 ?k7 ?a8 ?l8 ?c8 ?k8 ?a9 ?l9 ?c9 ?k9 ?a10 ?l10 ?c10 ?k10 ?a11 ?l11 ?c11 ?k11 ?a12 ?l12 ?c12 ?k12 ?a13 ?l13 ?c13 ?k13 ?a14 ?l14 ?c14 ?k14 ?a15 ?l15 ?c15 ?k15 ?a16 ?l16 ?c16 ?k16 ?a17 ?l17 ?c17 ?k17 ?a18 ?l18 ?c18 ?k18 ?a19 ?l19 ?c19 ?k19 ?a20 ?l20 ?c20 ?k20 ?a21 ?l21 ?c21 ?k21 ?a22 ?l22 ?c22 ?k22 ?a23 ?l23 ?c23 ?k23 ?a24 ?l24 ?c24 ?k24 ?a25 ?l25 ?c25 ?k25 ?a26 ?l26 ?c26 ?k26 ?a27 ?l27 ?c27 ?k27 ?z_abs ?z_len ?z_list ?z_max ?z_min ?z_range ?z_sorted ?z_sum ?z_tuple ?z_zip ?y_TOP Pv.law_pure
    (case a0 => k_is); (case l0 => k_is); (case c0 => k_is); (case k0 => k_is); (case a1 => k_is); (case l1 => k_is); (case c1 => k_is); (case k1 => k_is); (case a2 => k_is); (case l2 => k_is); (case c2 => k_is); (case k2 => k_is); (case a3 => k_is); (case l3 => k_is); (case c3 => k_is); (case k3 => k_is); (case a4 => k_is); (case l4 => k_is); (case c4 => k_is); (case k4 => k_is); (case a5 => k_is); (case l5 => k_is); (case c5 => k_is); (case k5 => k_is); (case a6 => k_is); (case l6 => k_is); (case c6 => k_is); (case k6 => k_is); (case a7 => k_is); (case l7 => k_is); (case c7 => k_is); (case k7 => k_is); (case a8 => k_is); (case l8 => k_is); (case c8 => k_is); (case k8 => k_is); (case a9 => k_is); (case l9 => k_is); (case c9 => k_is); (case k9 => k_is); (case a10 => k_is); (case l10 => k_is); (case c10 => k_is); (case k10 => k_is); (case a11 => k_is); (case l11 => k_is); (case c11 => k_is); (case k11 => k_is); (case a12 => k_is); (case l12 => k_is); (case c12 => k_is); (case k12 => k_is); (case a13 => k_is); (case l13 => k_is); (case c13 => k_is); (case k13 => k_is); (case a14 => k_is); (case l14 => k_is); (case c14 => k_is); (case k14 => k_is); (case a15 => k_is); (case l15 => k_is); (case c15 => k_is); (case k15 => k_is); (case a16 => k_is); (case l16 => k_is); (case c16 => k_is); (case k16 => k_is); (case a17 => k_is); (case l17 => k_is); (case c17 => k_is); (case k17 => k_is); (case a18 => k_is); (case l18 => k_is); (case c18 => k_is); (case k18 => k_is); (case a19 => k_is); (case l19 => k_is); (case c19 => k_is); (case k19 => k_is); (case a20 => k_is); (case l20 => k_is); (case c20 => k_is); (case k20 => k_is); (case a21 => k_is); (case l21 => k_is); (case c21 => k_is); (case k21 => k_is); (case a22 => k_is); (case l22 => k_is); (case c22 => k_is); (case k22 => k_is); (case a23 => k_is); (case l23 => k_is); (case c23 => k_is); (case k23 => k_is); (case a24 => k_is); (case l24 => k_is); (case c24 => k_is); (case k24 => k_is); (case a25 => k_is); (case l25 => k_is); (case c25 => k_is); (case k25 => k_is); (case a26 => k_is); (case l26 => k_is); (case c26 => k_is); (case k26 => k_is); (case a27 => k_is); (case l27 => k_is); (case c27 => k_is); (case k27 => k_is); (case z_abs => k_is); (case z_len => k_is); (case z_list => k_is); (case z_max => k_is); (case z_min => k_is); (case z_range => k_is); (case z_sorted => k_is); (case z_sum => k_is); (case z_tuple => k_is); (case z_zip => k_is); (case y_TOP => k_is)
