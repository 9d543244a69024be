import PyProof.Rows.All
import Wide.All
import OpenK.AllK
import Wide.FinOn
import HandS.ForMost
import HandS.Conv
import HandS.TupAny
import HandS.Deep
import HandS.Evl
import HandS.Walk
import KE.Datum
import HandS.IsInst
import HandS.CallRecv
import HandS.More
import KE.SortCalls
import KE.DatumOrd
import KE.GoesEnum
import KE.GoesMore
import KE.KDictWalk
import KE.KDictDisplayH
import PySem.Challenge.RW_undercells_k96_whole_hearths_by_tables
set_option Elab.async false
set_option linter.all false
set_option maxRecDepth 100000
set_option autoImplicit false
set_option maxHeartbeats 2000000
namespace U
abbrev Od := List Int
abbrev Poly := List (Int × Int)
abbrev Sm := List (Od × Poly)

/-- order[k - 1] > order[k] -/
def fall (o : Od) (k : Nat) : Bool := decide (o.getD (k - 1) 0 > o.getD k 0)
def exch (o : Od) (k : Nat) : Od := (o.set (k - 1) (o.getD k 0)).set k (o.getD (k - 1) 0)
/-- the numbers from 1 to n - 1, for n - 1 = m -/
def upTo (m : Nat) : List Nat := (List.range m).map (· + 1)
def plain (n : Nat) : Od := (List.range n).map fun (i : Nat) => (1 : Int) + (i : Int)
def longer (n : Nat) (found : List Od) : List Od := found.flatMap fun one => ((plain n).filter fun t => !(one.any fun y => decide (y = t))).map fun t => one ++ [t]
def allF (n : Nat) : Nat → List Od
  | 0 => [[]]
  | k + 1 => longer n (allF n k)
def allO (n : Nat) : List Od := allF n n

section
variable {κ β : Type} [DecidableEq κ]
def getK (kvs : List (κ × β)) (k : κ) : Option β := (kvs.find? fun kv => decide (kv.1 = k)).map (·.2)
def putKK (kvs : List (κ × β)) (k : κ) (v : β) : List (κ × β) :=
  if (kvs.any fun kv => decide (kv.1 = k)) = true then kvs.map (fun kv => if kv.1 = k then (kv.1, v) else kv) else kvs ++ [(k, v)]
end
def addP (shift many : Int) (here : Poly) (pn : Int × Int) : Poly := putKK here (pn.1 + shift) ((getK here (pn.1 + shift)).getD 0 + many * pn.2)
def kput (found : Sm) (o : Od) (p : Poly) (shift many : Int) : Sm :=
  let f1 := if (getK found o).isSome then found else putKK found o []
  putKK f1 o (p.foldl (addP shift many) ((getK f1 o).getD []))
def dictOf (kvs : Poly) : Poly := kvs.foldl (fun a kv => putKK a kv.1 kv.2) []
def noNought (found : Sm) : Sm := found.foldl (fun kept op => let some := op.2.filter fun pn => !decide (pn.2 = 0); if some = [] then kept else putKK kept op.1 (dictOf some)) []
def byPlain (some : Sm) (k : Nat) : Sm := some.foldl (fun found op =>
  kput (kput found (exch op.1 k) op.2 0 1) op.1 op.2 (if fall op.1 k then -1 else 1) 1) []
def fallsOf (o : Od) : List Nat := (upTo (o.length - 1)).filter (fall o)
def step (kept : Od → Sm) (o : Od) : Sm :=
  match fallsOf o with
  | [] => [(o, [(0, 1)])]
  | k :: _ =>
    let base := kept (exch o k)
    noNought (base.foldl (fun made op => if fall op.1 k && !decide ((getK op.2 1).getD 0 = 0) then
      (kept op.1).foldl (fun m bl => kput m bl.1 bl.2 0 (0 - (getK op.2 1).getD 0)) made else made) (byPlain base k))
def keptF : Nat → Od → Sm
  | 0 => fun _ => []
  | m + 1 => step (keptF m)
def kept (o : Od) : Sm := keptF 8 o
def leadM (one other : Od) : Int := (getK ((getK (kept other) one).getD []) 1).getD 0
def tieM (one other : Od) : Int := if leadM one other = 0 then leadM other one else leadM one other
def hasOther (one other : Od) : Bool := (upTo (one.length - 1)).any fun k => fall one k && !fall other k
def ledAt (one : Od) (orders : List Od) : List Od := orders.filter fun other => decide (other = one) || (hasOther other one && !decide (tieM one other = 0))
def inO (o : Od) (l : List Od) : Bool := l.any fun z => decide (z = o)
def ledLoop (ties : List (Od × List Od)) : Nat → Nat → List Od → List Od
  | 0, _, found => found
  | m + 1, at_, found =>
    match found[at_]? with
    | none => found
    | some f => ledLoop ties m (at_ + 1) (found ++ ((getK ties f).getD []).filter fun o => !inO o found)
def ledOver (ties : List (Od × List Od)) (one : Od) : List Od := ledLoop ties 30 0 [one]
def tiesOf (n : Nat) : List (Od × List Od) := (allO n).map fun one => (one, ledAt one (allO n))
def ledOf (n : Nat) : List (Od × List Od) := (allO n).map fun one => (one, ledOver (tiesOf n) one)
def hearthOf (orders : List Od) (led : List (Od × List Od)) (one : Od) : List Od := orders.filter fun other => inO other ((getK led one).getD []) && inO one ((getK led other).getD [])
def addNew (found : List (List Od)) (h : List Od) : List (List Od) := if found.any (fun z => decide (z = h)) then found else found ++ [h]
def rightsG (orders : List Od) (led : List (Od × List Od)) : List (List Od) := orders.foldl (fun found one => addNew found (hearthOf orders led one)) []
def rights (n : Nat) : List (List Od) := rightsG (allO n) (ledOf n)
end U
/-! Data that stand still (Rp), slots told by data (Slots), what expressions (DV, DVr, NL) and statements (Does) make of them. -/
namespace U
open PySem L2 Evl

/-! ### heaps: G what stands still, H all -/
structure Ext (G H G' H' : Hp) : Prop where
  h : Ex H H'
  g : Ex G G'
  gh : Ex G' H'
  fr : ∀ a, G a = none → H a ≠ none → G' a = none
theorem ne_none {H : Hp} {a : Addr} {o : HO} (h : H a = some o) : H a ≠ none := fun e => by rw [h] at e; cases e
theorem Ex.ne {H H' : Hp} {a : Addr} (e : Ex H H') (h : H a ≠ none) : H' a ≠ none := fun z => h (fresh_back e z)
theorem Ext.refl {G H : Hp} (e : Ex G H) : Ext G H G H := ⟨Ex.refl _, Ex.refl _, e, fun _ h _ => h⟩
theorem Ext.trans {G H G1 H1 G2 H2 : Hp} (a : Ext G H G1 H1) (b : Ext G1 H1 G2 H2) : Ext G H G2 H2 :=
  ⟨Ex.trans a.h b.h, Ex.trans a.g b.g, b.gh, fun x h1 h2 => b.fr x (a.fr x h1 h2) (U.Ex.ne a.h h2)⟩
theorem Ext.hs {G H H' : Hp} (e : Ex G H) (h : Ex H H') : Ext G H G H' := ⟨h, Ex.refl _, Ex.trans e h, fun _ h _ => h⟩
/-- a fresh object stands still from now on -/
theorem Ext.still {G H G' H' : Hp} {p : Addr} {o : HO} (x : Ext G H G' H') (hp : H p = none) (gp : G' p = none) (e : H' p = some o) : Ext G H (upd G' p o) H' := by
  refine ⟨x.h, Ex.mut x.g (fresh_back x.g gp), fun a u h => ?_, fun a h1 h2 => ?_⟩
  · by_cases ha : a = p
    · subst ha
      rw [upd_same] at h
      cases h
      exact e
    · rw [upd_ne ha] at h
      exact x.gh a u h
  · have ha : a ≠ p := fun z => h2 (by rw [z]; exact hp)
    rw [upd_ne ha]
    exact x.fr a h1 h2
/-- an object of one's own is changed -/
theorem Ext.own {G H G' H' : Hp} {p : Addr} {o : HO} (x : Ext G H G' H') (hp : H p = none) (gp : G' p = none) : Ext G H G' (upd H' p o) :=
  ⟨Ex.mut x.h hp, x.g, Ex.mut x.gh gp, x.fr⟩
theorem Ext.new {G H : Hp} {p : Addr} {o : HO} (e : Ex G H) (hp : H p = none) : Ext G H (upd G p o) (upd H p o) := by
  have gp : G p = none := fresh_back e hp
  exact Ext.still (Ext.hs e (Ex.new hp)) hp gp upd_same

/-! ### data that stand in a heap -/
mutual
inductive Rp (H : Hp) : V → PyData → Prop
  | non : Rp H .non .none
  | bl (b : Bool) : Rp H (.bl b) (.bool b)
  | int (i : Int) : Rp H (.int i) (.int i)
  | lst {a : Addr} {xs : List V} {ds : List PyData} : H a = some (.lst xs) → RpAll H xs ds → Rp H (.ref a) (.list ds)
  | tup {a : Addr} {xs : List V} {ds : List PyData} : H a = some (.tup xs) → RpAll H xs ds → Rp H (.ref a) (.tuple ds)
inductive RpAll (H : Hp) : List V → List PyData → Prop
  | nil : RpAll H [] []
  | cons {v : V} {vs : List V} {d : PyData} {ds : List PyData} : Rp H v d → RpAll H vs ds → RpAll H (v :: vs) (d :: ds)
end
mutual
theorem Rp.mono {H H' : Hp} (e : Ex H H') : ∀ {v : V} {d : PyData}, Rp H v d → Rp H' v d
  | _, _, .non => .non
  | _, _, .bl b => .bl b
  | _, _, .int i => .int i
  | _, _, .lst h r => .lst (e _ _ h) (RpAll.mono e r)
  | _, _, .tup h r => .tup (e _ _ h) (RpAll.mono e r)
theorem RpAll.mono {H H' : Hp} (e : Ex H H') : ∀ {vs : List V} {ds : List PyData}, RpAll H vs ds → RpAll H' vs ds
  | _, _, .nil => .nil
  | _, _, .cons h r => .cons (Rp.mono e h) (RpAll.mono e r)
end
mutual
theorem Rp.dp {K : PySem.W.Frag} {H : Hp} : ∀ {v : V} {d : PyData}, Rp H v d → Dp K H v d
  | _, _, .non => .non
  | _, _, .bl b => .bl b
  | _, _, .int i => .int i
  | _, _, .lst h r => .lst (SqL.of h) (RpAll.dp r)
  | _, _, .tup h r => .tup (SqT.of h) (RpAll.dp r)
theorem RpAll.dp {K : PySem.W.Frag} {H : Hp} : ∀ {vs : List V} {ds : List PyData}, RpAll H vs ds → DpAll K H vs ds
  | _, _, .nil => .nil
  | _, _, .cons h r => .cons (Rp.dp h) (RpAll.dp r)
end
section
variable {H : Hp} {v : V} {vs ws : List V} {d : PyData} {ds es : List PyData}
theorem RpAll.len : ∀ {vs : List V} {ds : List PyData}, RpAll H vs ds → vs.length = ds.length
  | _, _, .nil => rfl
  | _, _, .cons _ r => by rw [List.length_cons, List.length_cons, r.len]
theorem RpAll.append : ∀ {vs : List V} {ds : List PyData}, RpAll H vs ds → RpAll H ws es → RpAll H (vs ++ ws) (ds ++ es)
  | _, _, .nil, s => s
  | _, _, .cons h r, s => .cons h (r.append s)
theorem RpAll.one (h : Rp H v d) : RpAll H [v] [d] := .cons h .nil
theorem RpAll.at : ∀ {vs : List V} {ds : List PyData} {i : Nat} {d : PyData}, RpAll H vs ds → ds[i]? = some d → ∃ v, vs[i]? = some v ∧ Rp H v d
  | _, _, _, _, .nil, e => by simp at e
  | _, _, 0, _, .cons h _, e => ⟨_, rfl, by cases e; exact h⟩
  | _, _, i + 1, _, .cons _ r, e => r.at (i := i) e
theorem RpAll.ofV : ∀ {vs : List V} {ds : List PyData} {i : Nat} {v : V}, RpAll H vs ds → vs[i]? = some v → ∃ d, ds[i]? = some d ∧ Rp H v d
  | _, _, _, _, .nil, e => by simp at e
  | _, _, 0, _, .cons h _, e => ⟨_, rfl, by cases e; exact h⟩
  | _, _, i + 1, _, .cons _ r, e => r.ofV (i := i) e
theorem RpAll.take : ∀ {vs : List V} {ds : List PyData} (n : Nat), RpAll H vs ds → RpAll H (vs.take n) (ds.take n)
  | _, _, 0, _ => .nil
  | _, _, _ + 1, .nil => .nil
  | _, _, n + 1, .cons h r => .cons h (r.take n)
theorem RpAll.drop : ∀ {vs : List V} {ds : List PyData} (n : Nat), RpAll H vs ds → RpAll H (vs.drop n) (ds.drop n)
  | _, _, 0, r => r
  | _, _, _ + 1, .nil => .nil
  | _, _, n + 1, .cons _ r => r.drop n
theorem RpAll.set : ∀ {vs : List V} {ds : List PyData} (n : Nat), RpAll H vs ds → Rp H v d → RpAll H (vs.set n v) (ds.set n d)
  | _, _, _, .nil, _ => .nil
  | _, _, 0, .cons _ r, h => .cons h r
  | _, _, n + 1, .cons g r, h => .cons g (r.set n h)
theorem RpAll.erase : ∀ {vs : List V} {ds : List PyData} (n : Nat), RpAll H vs ds → RpAll H (vs.eraseIdx n) (ds.eraseIdx n)
  | _, _, _, .nil => .nil
  | _, _, 0, .cons _ r => r
  | _, _, n + 1, .cons g r => .cons g (r.erase n)
theorem RpAll.rep : ∀ n : Nat, Rp H v d → RpAll H (List.replicate n v) (List.replicate n d)
  | 0, _ => .nil
  | n + 1, h => .cons h (RpAll.rep n h)
theorem Rp.int_inv {i : Int} (r : Rp H v (.int i)) : v = .int i := by cases r; rfl
theorem Rp.bl_inv {b : Bool} (r : Rp H v (.bool b)) : v = .bl b := by cases r; rfl
theorem Rp.lst_inv (r : Rp H v (.list ds)) : ∃ a xs, v = .ref a ∧ H a = some (.lst xs) ∧ RpAll H xs ds := by
  cases r with
  | lst h r => exact ⟨_, _, rfl, h, r⟩
theorem Rp.tup_inv (r : Rp H v (.tuple ds)) : ∃ a xs, v = .ref a ∧ H a = some (.tup xs) ∧ RpAll H xs ds := by
  cases r with
  | tup h r => exact ⟨_, _, rfl, h, r⟩
theorem RpAll.ints : ∀ {ns : List Int} {vs : List V}, RpAll H vs (ns.map .int) → vs = ns.map V.int
  | [], _, r => by cases r; rfl
  | n :: ns, _, r => by
    rw [List.map_cons] at r
    cases r with
    | cons h r =>
      rw [h.int_inv, r.ints]
      rfl
theorem RpAll.bls : ∀ {ns : List Bool} {vs : List V}, RpAll H vs (ns.map .bool) → vs = ns.map V.bl
  | [], _, r => by cases r; rfl
  | n :: ns, _, r => by
    rw [List.map_cons] at r
    cases r with
    | cons h r =>
      rw [h.bl_inv, r.bls]
      rfl
theorem RpAll.ofInts : ∀ ns : List Int, RpAll H (ns.map V.int) (ns.map .int)
  | [] => .nil
  | n :: ns => .cons (.int n) (RpAll.ofInts ns)
end

/-! ### slots -/
inductive Sl where
  /-- the slot's value reads as d and stands still -/
  | imm (d : PyData)
  /-- a list of one's own -/
  | own (ds : List PyData)
  /-- nothing is told -/
  | any
abbrev Rho := List Sl
def SlOk (H0 G H : Hp) : Sl → Option V → Prop
  | .imm d, s => ∃ v, s = some v ∧ Rp G v d
  | .own ds, s => ∃ p vs, s = some (.ref p) ∧ H p = some (.lst vs) ∧ RpAll G vs ds ∧ G p = none ∧ H0 p = none
  | .any, _ => True
structure Slots (H0 : Hp) (ρ : Rho) (σ : L2.St) (G H : Hp) : Prop where
  len : σ.length = ρ.length
  ok : ∀ (i : Nat) (sl : Sl), ρ[i]? = some sl → ∃ s, σ[i]? = some s ∧ SlOk H0 G H sl s
  dist : ∀ (i j : Nat) (p : Addr) (ds es : List PyData), ρ[i]? = some (.own ds) → ρ[j]? = some (.own es) → σ[i]? = some (some (.ref p)) → σ[j]? = some (some (.ref p)) → i = j
section
variable {H0 G H G' H' : Hp} {ρ : Rho} {σ : L2.St} {v : V} {d : PyData} {ds es : List PyData} {i : Nat} {p : Addr} {vs : List V}
theorem SlOk.ext (x : Ext G H G' H') : ∀ {sl : Sl} {s : Option V}, SlOk H0 G H sl s → SlOk H0 G' H' sl s
  | .imm _, _, ⟨v, e, r⟩ => ⟨v, e, r.mono x.g⟩
  | .own _, _, ⟨p, vs, e, h, r, g, z⟩ => ⟨p, vs, e, x.h _ _ h, r.mono x.g, x.fr p g (ne_none h), z⟩
  | .any, _, _ => True.intro
theorem Slots.ext (S : Slots H0 ρ σ G H) (x : Ext G H G' H') : Slots H0 ρ σ G' H' :=
  ⟨S.len, fun i sl h => let ⟨s, e, k⟩ := S.ok i sl h; ⟨s, e, k.ext x⟩, S.dist⟩
theorem Slots.imm_at (S : Slots H0 ρ σ G H) (h : ρ[i]? = some (.imm d)) : ∃ v, σ[i]? = some (some v) ∧ Rp G v d := by
  obtain ⟨s, e, v, rfl, r⟩ := S.ok i _ h
  exact ⟨v, e, r⟩
theorem Slots.own_at (S : Slots H0 ρ σ G H) (h : ρ[i]? = some (.own ds)) : ∃ p vs, σ[i]? = some (some (.ref p)) ∧ H p = some (.lst vs) ∧ RpAll G vs ds ∧ G p = none ∧ H0 p = none := by
  obtain ⟨s, e, p, vs, rfl, r⟩ := S.ok i _ h
  exact ⟨p, vs, e, r⟩
theorem Slots.put (S : Slots H0 ρ σ G H) {sl : Sl} {s : Option V} (k : SlOk H0 G H sl s) (hd : ∀ (p : Addr) (ds : List PyData), sl = .own ds → s = some (.ref p) → ∀ (j : Nat) (es : List PyData), j ≠ i → ρ[j]? = some (.own es) → σ[j]? ≠ some (some (.ref p))) :
    Slots H0 (ρ.set i sl) (σ.set i s) G H := by
  refine ⟨by rw [List.length_set, List.length_set, S.len], fun j sl' h => ?_, fun j l p ds es h1 h2 h3 h4 => ?_⟩
  · by_cases hj : i = j
    · subst hj
      have hi : i < ρ.length := by
        have q := (List.getElem?_eq_some_iff.mp h).1
        rwa [List.length_set] at q
      rw [List.getElem?_set_self hi] at h
      cases h
      exact ⟨s, List.getElem?_set_self (by rw [S.len]; exact hi), k⟩
    · rw [List.getElem?_set_ne hj] at h
      obtain ⟨s', e, k'⟩ := S.ok j sl' h
      exact ⟨s', by rw [List.getElem?_set_ne hj]; exact e, k'⟩
  · have inR : ∀ {m : Nat} {x : Sl}, (ρ.set i sl)[m]? = some x → m < ρ.length := fun {m x} q => by
      have z := (List.getElem?_eq_some_iff.mp q).1
      rwa [List.length_set] at z
    by_cases hj : i = j
    · by_cases hl : i = l
      · exact hj.symm.trans hl
      · subst hj
        have hi := inR h1
        rw [List.getElem?_set_self hi] at h1
        rw [List.getElem?_set_self (by rw [S.len]; exact hi)] at h3
        rw [List.getElem?_set_ne hl] at h2 h4
        cases h1
        exact absurd h4 (hd p _ rfl (Option.some.inj h3) l es (Ne.symm hl) h2)
    · by_cases hl : i = l
      · subst hl
        have hi := inR h2
        rw [List.getElem?_set_self hi] at h2
        rw [List.getElem?_set_self (by rw [S.len]; exact hi)] at h4
        rw [List.getElem?_set_ne hj] at h1 h3
        cases h2
        exact absurd h3 (hd p _ rfl (Option.some.inj h4) j ds (Ne.symm hj) h1)
      · rw [List.getElem?_set_ne hj] at h1 h3
        rw [List.getElem?_set_ne hl] at h2 h4
        exact S.dist j l p ds es h1 h2 h3 h4
theorem Slots.setImm (S : Slots H0 ρ σ G H) (r : Rp G v d) : Slots H0 (ρ.set i (.imm d)) (σ.set i (some v)) G H := S.put ⟨v, rfl, r⟩ fun _ _ e => nomatch e
theorem Slots.setAny (S : Slots H0 ρ σ G H) {s : Option V} : Slots H0 (ρ.set i .any) (σ.set i s) G H := S.put True.intro fun _ _ e => nomatch e
/-- a fresh list becomes a slot's own -/
theorem Slots.setOwn (S : Slots H0 ρ σ G H) (x : Ext G H G' H') (hp : H p = none) (h' : H' p = some (.lst vs)) (r : RpAll G' vs ds) (gp : G' p = none) (h0 : H0 p = none) :
    Slots H0 (ρ.set i (.own ds)) (σ.set i (some (.ref p))) G' H' := (S.ext x).put ⟨p, vs, rfl, h', r, gp, h0⟩ fun q es _ e2 j fs _ hj hs => by
  cases e2
  obtain ⟨p', vs', e, h, _⟩ := S.own_at hj
  rw [hs] at e
  cases e
  rw [hp] at h
  cases h
/-- a slot forgotten, its value kept -/
theorem Slots.forget (S : Slots H0 ρ σ G H) : Slots H0 (ρ.set i .any) σ G H := by
  by_cases hi : i < σ.length
  · have e : σ.set i σ[i] = σ := List.set_getElem_self hi
    have q := S.setAny (i := i) (s := σ[i])
    rwa [e] at q
  · have e : ρ.set i .any = ρ := List.set_eq_of_length_le (by rw [← S.len]; omega)
    rw [e]
    exact S
/-- an own list is changed -/
theorem Slots.change {ws : List V} (S : Slots H0 ρ σ G H) (h : ρ[i]? = some (.own ds)) (hs : σ[i]? = some (some (.ref p))) (r : RpAll G ws es) : Slots H0 (ρ.set i (.own es)) σ G (upd H p (.lst ws)) := by
  obtain ⟨p', vs', e, hp, _, gp, h0⟩ := S.own_at h
  rw [hs] at e
  cases e
  have hi : i < ρ.length := (List.getElem?_eq_some_iff.mp h).1
  refine ⟨by rw [List.length_set, S.len], fun j sl hj => ?_, fun j l q ds' es' h1 h2 h3 h4 => ?_⟩
  · by_cases hij : i = j
    · subst hij
      rw [List.getElem?_set_self hi] at hj
      cases hj
      exact ⟨_, hs, p, ws, rfl, upd_same, r, gp, h0⟩
    · rw [List.getElem?_set_ne hij] at hj
      obtain ⟨s, e, k⟩ := S.ok j sl hj
      refine ⟨s, e, ?_⟩
      cases sl with
      | imm d => exact k
      | any => exact True.intro
      | own ds' =>
        obtain ⟨q, us, rfl, hq, rq, gq, zq⟩ := k
        have ne : q ≠ p := fun z => hij (S.dist i j p ds ds' h hj hs (by rw [e, z]))
        exact ⟨q, us, rfl, by rw [upd_ne ne]; exact hq, rq, gq, zq⟩
  · have old : ∀ {m : Nat} {fs : List PyData}, (ρ.set i (.own es))[m]? = some (.own fs) → ∃ gs, ρ[m]? = some (.own gs) := fun {m fs} z => by
      by_cases him : i = m
      · subst him
        exact ⟨_, h⟩
      · rw [List.getElem?_set_ne him] at z
        exact ⟨_, z⟩
    obtain ⟨_, h1⟩ := old h1
    obtain ⟨_, h2⟩ := old h2
    exact S.dist j l q _ _ h1 h2 h3 h4
/-- an own list stands still from now on -/
theorem Slots.still (S : Slots H0 ρ σ G H) (h : ρ[i]? = some (.own ds)) (hs : σ[i]? = some (some (.ref p))) (hp : H p = some (.lst vs)) : Slots H0 (ρ.set i (.imm (.list ds))) σ (upd G p (.lst vs)) H := by
  obtain ⟨p', vs', e, hp', r, gp, h0⟩ := S.own_at h
  rw [hs] at e
  cases e
  rw [hp] at hp'
  cases hp'
  have hi : i < ρ.length := (List.getElem?_eq_some_iff.mp h).1
  have up : Ex G (upd G p (.lst vs)) := Ex.new gp
  refine ⟨by rw [List.length_set, S.len], fun j sl hj => ?_, fun j l q ds' es' h1 h2 h3 h4 => ?_⟩
  · by_cases hij : i = j
    · subst hij
      rw [List.getElem?_set_self hi] at hj
      cases hj
      exact ⟨_, hs, _, rfl, .lst upd_same (r.mono up)⟩
    · rw [List.getElem?_set_ne hij] at hj
      obtain ⟨s, e, k⟩ := S.ok j sl hj
      refine ⟨s, e, ?_⟩
      cases sl with
      | imm d =>
        obtain ⟨v, e, r⟩ := k
        exact ⟨v, e, r.mono up⟩
      | any => exact True.intro
      | own ds' =>
        obtain ⟨q, us, rfl, hq, rq, gq, zq⟩ := k
        have ne : q ≠ p := fun z => hij (S.dist i j p ds ds' h hj hs (by rw [e, z]))
        exact ⟨q, us, rfl, hq, rq.mono up, by rw [upd_ne ne]; exact gq, zq⟩
  · have old : ∀ {m : Nat} {fs : List PyData}, (ρ.set i (.imm (.list ds)))[m]? = some (.own fs) → ρ[m]? = some (.own fs) := fun {m fs} z => by
      by_cases him : i = m
      · subst him
        rw [List.getElem?_set_self hi] at z
        cases z
      · rw [List.getElem?_set_ne him] at z
        exact z
    exact S.dist j l q _ _ (old h1) (old h2) h3 h4
end

/-! ### expressions -/
/-- the value reads as d, stands still -/
def DV (H0 : Hp) (te : TE) (ρ : Rho) (d : PyData) : Prop := ∀ σ G H, Ex G H → Slots H0 ρ σ G H → ∀ Q : VK, (∀ v G' H', Ext G H G' H' → Rp G' v d → Q v H') → te σ H Q
/-- the value reads as d -/
def DVr (H0 : Hp) (te : TE) (ρ : Rho) (d : PyData) : Prop := ∀ σ G H, Ex G H → Slots H0 ρ σ G H → ∀ Q : VK, (∀ v H', Ex H H' → Rp H' v d → Q v H') → te σ H Q
/-- a new list of ds -/
def NL (H0 : Hp) (te : TE) (ρ : Rho) (ds : List PyData) : Prop := ∀ σ G H, Ex G H → Slots H0 ρ σ G H → ∀ Q : VK, (∀ p vs G' H', Ext G H G' H' → H p = none → G' p = none → H' p = some (.lst vs) → RpAll G' vs ds → Q (.ref p) H') → te σ H Q
def AV (H0 : Hp) (ta : TA) (ρ : Rho) (ds : List PyData) : Prop := ∀ σ G H, Ex G H → Slots H0 ρ σ G H → ∀ Q : List V → Hp → Prop, (∀ vs G' H', Ext G H G' H' → RpAll G' vs ds → Q vs H') → ta σ H Q
def AVr (H0 : Hp) (ta : TA) (ρ : Rho) (ds : List PyData) : Prop := ∀ σ G H, Ex G H → Slots H0 ρ σ G H → ∀ Q : List V → Hp → Prop, (∀ vs H', Ex H H' → RpAll H' vs ds → Q vs H') → ta σ H Q
def TV (H0 : Hp) (tt : TT) (ρ : Rho) (b : Bool) : Prop := ∀ σ G H, Ex G H → Slots H0 ρ σ G H → ∀ Q : Bool → Hp → Prop, (∀ H', Ex H H' → Q b H') → tt σ H Q
/-- a part of a slice -/
def OV (H0 : Hp) (to : TO) (ρ : Rho) (o : Option Int) : Prop := ∀ σ G H, Ex G H → Slots H0 ρ σ G H → ∀ Q : Option Int → Hp → Prop, (∀ H', Ex H H' → Q o H') → to σ H Q
section
variable {K : PySem.W.Frag} {H0 : Hp} {ρ : Rho} {ta tb te tx : TE} {tt tu : TT} {d e : PyData} {ds es : List PyData} {b c : Bool} {i j : Int}
theorem DV.r (h : DV H0 te ρ d) : DVr H0 te ρ d := fun σ G H e S Q q => h σ G H e S Q fun v G' H' x r => q v H' x.h (r.mono x.gh)
theorem NL.dv (h : NL H0 te ρ ds) : DV H0 te ρ (.list ds) := fun σ G H e S Q q => h σ G H e S Q fun p vs G' H' x hp gp h' r =>
  q _ (upd G' p (.lst vs)) H' (x.still hp gp h') (.lst upd_same (r.mono (Ex.new gp)))
theorem NL.r (h : NL H0 te ρ ds) : DVr H0 te ρ (.list ds) := h.dv.r
theorem AV.r {ta : TA} (h : AV H0 ta ρ ds) : AVr H0 ta ρ ds := fun σ G H e S Q q => h σ G H e S Q fun v G' H' x r => q v H' x.h (r.mono x.gh)
theorem DVr.dI (h : DVr H0 te ρ (.int i)) : DV H0 te ρ (.int i) := fun σ G H e S Q q => h σ G H e S Q fun v H' x r => q v G H' (Ext.hs e x) (by rw [r.int_inv]; exact .int i)
theorem DVr.dB (h : DVr H0 te ρ (.bool b)) : DV H0 te ρ (.bool b) := fun σ G H e S Q q => h σ G H e S Q fun v H' x r => q v G H' (Ext.hs e x) (by rw [r.bl_inv]; exact .bl b)
theorem dv_var {n : Nat} (h : ρ[n]? = some (.imm d)) : DV H0 (tVar n) ρ d := fun σ G H e S Q q => by
  obtain ⟨v, hv, r⟩ := S.imm_at h
  exact ⟨v, hv, q v G H (Ext.refl e) r⟩
theorem dvr_own {n : Nat} (h : ρ[n]? = some (.own ds)) : DVr H0 (tVar n) ρ (.list ds) := fun σ G H e S Q q => by
  obtain ⟨p, vs, hv, hp, r, _⟩ := S.own_at h
  exact ⟨_, hv, q _ H (Ex.refl _) (.lst hp (r.mono e))⟩
theorem dv_int : DV H0 (tC (.int i)) ρ (.int i) := fun σ G H e S Q q => q _ G H (Ext.refl e) (.int i)
theorem dv_bl : DV H0 (tC (.bl b)) ρ (.bool b) := fun σ G H e S Q q => q _ G H (Ext.refl e) (.bl b)
theorem av_nil : AV H0 tNil ρ [] := fun σ G H e S Q q => q _ G H (Ext.refl e) .nil
theorem av_cons {tr : TA} (h : DV H0 te ρ d) (hr : AV H0 tr ρ ds) : AV H0 (tCons te tr) ρ (d :: ds) := fun σ G H e S Q q =>
  h σ G H e S _ fun v G1 H1 x r => hr σ G1 H1 x.gh (S.ext x) _ fun vs G2 H2 x2 rs => q _ G2 H2 (x.trans x2) (.cons (r.mono x2.g) rs)
theorem ar_nil : AVr H0 tNil ρ [] := fun σ G H e S Q q => q _ H (Ex.refl _) .nil
theorem ar_cons {tr : TA} (h : DVr H0 te ρ d) (hr : AVr H0 tr ρ ds) : AVr H0 (tCons te tr) ρ (d :: ds) := fun σ G H e S Q q =>
  h σ G H e S _ fun v H1 x r => hr σ G H1 (Ex.trans e x) (S.ext (Ext.hs e x)) _ fun vs H2 x2 rs => q _ H2 (Ex.trans x x2) (.cons (r.mono x2) rs)
/-- two operands that are read -/
theorem r2 {r : R2} (ha : DVr H0 ta ρ d) (hb : DVr H0 tb ρ e) {σ : L2.St} {G H : Hp} (hx : Ex G H) (S : Slots H0 ρ σ G H) {Q : VK} (k : ∀ x y H', Ex H H' → Rp H' x d → Rp H' y e → r x y H' Q) : tOp r ta tb σ H Q :=
  ha σ G H hx S _ fun x H1 e1 r1 => hb σ G H1 (Ex.trans hx e1) (S.ext (Ext.hs hx e1)) _ fun y H2 e2 r2 => k x y H2 (Ex.trans e1 e2) (r1.mono e2) r2
theorem dv_ii {f : Int → Int → Int} (ha : DVr H0 ta ρ (.int i)) (hb : DVr H0 tb ρ (.int j)) : DV H0 (tOp (rI0 fun i j => .int (f i j)) ta tb) ρ (.int (f i j)) := fun σ G H hx S Q q =>
  r2 ha hb hx S fun x y H' e r1 r2 => ⟨i, j, r1.int_inv, r2.int_inv, q _ G H' (Ext.hs hx e) (.int _)⟩
theorem dv_iiC {C : Int → Int → Prop} {f : Int → Int → Int} (ha : DVr H0 ta ρ (.int i)) (hb : DVr H0 tb ρ (.int j)) (hc : C i j) : DV H0 (tOp (rI C fun i j => .int (f i j)) ta tb) ρ (.int (f i j)) := fun σ G H hx S Q q =>
  r2 ha hb hx S fun x y H' e r1 r2 => ⟨i, j, r1.int_inv, r2.int_inv, hc, q _ G H' (Ext.hs hx e) (.int _)⟩
theorem dv_ib {f : Int → Int → Bool} (ha : DVr H0 ta ρ (.int i)) (hb : DVr H0 tb ρ (.int j)) : DV H0 (tOp (rI0 fun i j => .bl (f i j)) ta tb) ρ (.bool (f i j)) := fun σ G H hx S Q q =>
  r2 ha hb hx S fun x y H' e r1 r2 => ⟨i, j, r1.int_inv, r2.int_inv, q _ G H' (Ext.hs hx e) (.bl _)⟩
theorem dec_int (i j : Int) : decide (V.int i = V.int j) = decide (i = j) := decide_eq_decide.mpr ⟨fun e => V.int.inj e, fun e => by rw [e]⟩
theorem dv_eqI (ha : DVr H0 ta ρ (.int i)) (hb : DVr H0 tb ρ (.int j)) : DV H0 (tOp rEq ta tb) ρ (.bool (decide (i = j))) := fun σ G H hx S Q q =>
  r2 ha hb hx S fun x y H' e r1 r2 => by
    rw [r1.int_inv, r2.int_inv]
    exact ⟨rfl, q _ G H' (Ext.hs hx e) (by rw [dec_int]; exact .bl _)⟩
theorem dv_neI (ha : DVr H0 ta ρ (.int i)) (hb : DVr H0 tb ρ (.int j)) : DV H0 (tOp rNe ta tb) ρ (.bool (!decide (i = j))) := fun σ G H hx S Q q =>
  r2 ha hb hx S fun x y H' e r1 r2 => by
    rw [r1.int_inv, r2.int_inv]
    exact ⟨rfl, q _ G H' (Ext.hs hx e) (by rw [dec_int]; exact .bl _)⟩
/-- ==, != of data -/
theorem dv_eqD (ha : DVr H0 ta ρ d) (hb : DVr H0 tb ρ e) (sd : SeqAt.shaped d = true) (se : SeqAt.shaped e = true) : DV H0 (tOp (rEqD K) ta tb) ρ (.bool (PyData.eqv d e)) := fun σ G H hx S Q q =>
  r2 ha hb hx S fun x y H' ex r1 r2 => ⟨d, e, r1.dp, r2.dp, sd, se, q _ G H' (Ext.hs hx ex) (.bl _)⟩
theorem dv_neD (ha : DVr H0 ta ρ d) (hb : DVr H0 tb ρ e) (sd : SeqAt.shaped d = true) (se : SeqAt.shaped e = true) : DV H0 (tOp (rNeD K) ta tb) ρ (.bool (!PyData.eqv d e)) := fun σ G H hx S Q q =>
  r2 ha hb hx S fun x y H' ex r1 r2 => ⟨d, e, r1.dp, r2.dp, sd, se, q _ G H' (Ext.hs hx ex) (.bl _)⟩
/-- in, not in: a list of data -/
theorem dv_inD (ha : DVr H0 ta ρ d) (hb : DVr H0 tb ρ (.list ds)) (sd : SeqAt.shaped d = true) (se : SeqAt.shaped (.list ds) = true) : DV H0 (tOp (rInD K) ta tb) ρ (.bool (ds.any fun z => PyData.eqv z d)) := fun σ G H hx S Q q =>
  r2 ha hb hx S fun x y H' ex r1 r2 => ⟨d, ds, r1.dp, r2.dp, sd, se, q _ G H' (Ext.hs hx ex) (.bl _)⟩
theorem dv_niD (ha : DVr H0 ta ρ d) (hb : DVr H0 tb ρ (.list ds)) (sd : SeqAt.shaped d = true) (se : SeqAt.shaped (.list ds) = true) : DV H0 (tOp (rNotInD K) ta tb) ρ (.bool (!ds.any fun z => PyData.eqv z d)) := fun σ G H hx S Q q =>
  r2 ha hb hx S fun x y H' ex r1 r2 => ⟨d, ds, r1.dp, r2.dp, sd, se, q _ G H' (Ext.hs hx ex) (.bl _)⟩
/-- x not in t, whole numbers in a tuple -/
theorem dv_niT {ns : List Int} (ha : DVr H0 ta ρ (.int i)) (hb : DVr H0 tb ρ (.tuple (ns.map .int))) : DV H0 (tOp (rIn K true) ta tb) ρ (.bool (!ns.any fun y => y == i)) := fun σ G H hx S Q q =>
  r2 ha hb hx S fun x y H' ex r1 r2 => by
    obtain ⟨a, xs, rfl, h, ra⟩ := r2.tup_inv
    obtain rfl := ra.ints
    rw [r1.int_inv]
    refine ⟨a, _, rfl, Or.inr (SqT.of h), rfl, ?_, ?_⟩
    · rw [List.all_map]
      exact List.all_eq_true.mpr fun _ _ => rfl
    · have e : (if true = true then !inV (V.int i) (ns.map V.int) else inV (V.int i) (ns.map V.int)) = !ns.any fun y => y == i := by
        rw [if_pos rfl]
        unfold inV
        rw [List.any_map]
        rfl
      rw [e]
      exact q _ G H' (Ext.hs hx ex) (.bl _)
/-- xs[i], the item stands still: from a list or a tuple that does, or from an own list -/
theorem dv_ixL {n : Nat} (ha : DV H0 ta ρ (.list ds)) (hb : DVr H0 tb ρ (.int i)) (e : i = (n : Int)) (hd : ds[n]? = some d) : DV H0 (tOp (rIxL K) ta tb) ρ d := fun σ G H hx S Q q =>
  ha σ G H hx S _ fun x G1 H1 x1 r1 => hb σ G1 H1 x1.gh (S.ext x1) _ fun y H2 e2 r2 => by
    obtain ⟨a, xs, rfl, h, ra⟩ := r1.lst_inv
    obtain ⟨v, hv, rv⟩ := ra.at hd
    exact ⟨a, xs, i, v, rfl, r2.int_inv, SqL.of (e2 _ _ (x1.gh _ _ h)), at_of e hv, q v G1 H2 (x1.trans (Ext.hs x1.gh e2)) rv⟩
theorem dv_ixT {n : Nat} (ha : DV H0 ta ρ (.tuple ds)) (hb : DVr H0 tb ρ (.int i)) (e : i = (n : Int)) (hd : ds[n]? = some d) : DV H0 (tOp (rIxT K) ta tb) ρ d := fun σ G H hx S Q q =>
  ha σ G H hx S _ fun x G1 H1 x1 r1 => hb σ G1 H1 x1.gh (S.ext x1) _ fun y H2 e2 r2 => by
    obtain ⟨a, xs, rfl, h, ra⟩ := r1.tup_inv
    obtain ⟨v, hv, rv⟩ := ra.at hd
    exact ⟨a, xs, i, v, rfl, r2.int_inv, SqT.of (e2 _ _ (x1.gh _ _ h)), at_of e hv, q v G1 H2 (x1.trans (Ext.hs x1.gh e2)) rv⟩
theorem dv_ixO {n m : Nat} (ha : ρ[m]? = some (.own ds)) (hb : DVr H0 tb ρ (.int i)) (e : i = (n : Int)) (hd : ds[n]? = some d) : DV H0 (tOp (rIxL K) (tVar m) tb) ρ d := fun σ G H hx S Q q => by
  obtain ⟨p, vs, hv, hp, ra, _⟩ := S.own_at ha
  refine ⟨_, hv, hb σ G H hx S _ fun y H2 e2 r2 => ?_⟩
  obtain ⟨v, hv, rv⟩ := ra.at hd
  exact ⟨p, vs, i, v, rfl, r2.int_inv, SqL.of (e2 _ _ hp), at_of e hv, q v G H2 (Ext.hs hx e2) rv⟩
/-- displays -/
theorem dv_tup {ta : TA} (h : AV H0 ta ρ ds) (hl : ds.length ≤ 100000) : DV H0 (tTup ta) ρ (.tuple ds) := fun σ G H hx S Q q => h σ G H hx S _ fun vs G1 H1 x1 rs =>
  ⟨sz_of (by rw [rs.len]; exact hl), fun p hp => q _ (upd G1 p (.tup vs)) _ (x1.trans (Ext.new x1.gh hp)) (.tup upd_same (rs.mono (Ex.new (fresh_back x1.gh hp))))⟩
theorem nl_lst {ta : TA} (h : AV H0 ta ρ ds) (hl : ds.length ≤ 100000) : NL H0 (tLst ta) ρ ds := fun σ G H hx S Q q => h σ G H hx S _ fun vs G1 H1 x1 rs =>
  ⟨sz_of (by rw [rs.len]; exact hl), fun p hp => q p vs G1 _ (x1.trans (Ext.hs x1.gh (Ex.new hp))) (fresh_back x1.h hp) (fresh_back x1.gh hp) upd_same rs⟩
/-- len -/
theorem dv_len (h : DVr H0 te ρ (.list ds)) : DV H0 (tCB (fun xs H Q => ∃ p ys, xs = [.ref p] ∧ (SqL K H p ys ∨ SqT K H p ys) ∧ Q (.int (ys.length : Nat)) H) (tCons te tNil)) ρ (.int (ds.length : Nat)) := fun σ G H hx S Q q =>
  h σ G H hx S _ fun v H1 e1 r => by
    obtain ⟨a, xs, rfl, h, ra⟩ := r.lst_inv
    refine ⟨a, xs, rfl, Or.inl (SqL.of h), ?_⟩
    rw [ra.len]
    exact q _ G H1 (Ext.hs hx e1) (.int _)
theorem dv_lenT (h : DVr H0 te ρ (.tuple ds)) : DV H0 (tCB (fun xs H Q => ∃ p ys, xs = [.ref p] ∧ (SqL K H p ys ∨ SqT K H p ys) ∧ Q (.int (ys.length : Nat)) H) (tCons te tNil)) ρ (.int (ds.length : Nat)) := fun σ G H hx S Q q =>
  h σ G H hx S _ fun v H1 e1 r => by
    obtain ⟨a, xs, rfl, h, ra⟩ := r.tup_inv
    refine ⟨a, xs, rfl, Or.inr (SqT.of h), ?_⟩
    rw [ra.len]
    exact q _ G H1 (Ext.hs hx e1) (.int _)
/-- list(..) of a list, of a tuple -/
theorem nl_list (h : DV H0 te ρ (.list ds)) : NL H0 (tCB (fun xs H Q => ∃ p ys, xs = [.ref p] ∧ (SqL K H p ys ∨ SqT K H p ys) ∧ ∀ l, H l = none → Q (.ref l) (upd H l (.lst ys))) (tCons te tNil)) ρ ds := fun σ G H hx S Q q =>
  h σ G H hx S _ fun v G1 H1 x1 r => by
    obtain ⟨a, xs, rfl, h, ra⟩ := r.lst_inv
    exact ⟨a, xs, rfl, Or.inl (SqL.of (x1.gh _ _ h)), fun p hp => q p xs G1 _ (x1.trans (Ext.hs x1.gh (Ex.new hp))) (fresh_back x1.h hp) (fresh_back x1.gh hp) upd_same ra⟩
theorem nl_listT (h : DV H0 te ρ (.tuple ds)) : NL H0 (tCB (fun xs H Q => ∃ p ys, xs = [.ref p] ∧ (SqL K H p ys ∨ SqT K H p ys) ∧ ∀ l, H l = none → Q (.ref l) (upd H l (.lst ys))) (tCons te tNil)) ρ ds := fun σ G H hx S Q q =>
  h σ G H hx S _ fun v G1 H1 x1 r => by
    obtain ⟨a, xs, rfl, h, ra⟩ := r.tup_inv
    exact ⟨a, xs, rfl, Or.inr (SqT.of (x1.gh _ _ h)), fun p hp => q p xs G1 _ (x1.trans (Ext.hs x1.gh (Ex.new hp))) (fresh_back x1.h hp) (fresh_back x1.gh hp) upd_same ra⟩
/-- tuple(..) of an own list -/
theorem dv_tupO {m : Nat} (ha : ρ[m]? = some (.own ds)) : DV H0 (tCB (fun xs H Q => ∃ p ys, xs = [.ref p] ∧ ((SqL K H p ys ∧ ∀ l, H l = none → Q (.ref l) (upd H l (.tup ys))) ∨ (SqT K H p ys ∧ Q (.ref p) H))) (tCons (tVar m) tNil)) ρ (.tuple ds) := fun σ G H hx S Q q => by
  obtain ⟨p, vs, hv, hp, ra, _⟩ := S.own_at ha
  exact ⟨_, hv, p, vs, rfl, Or.inl ⟨SqL.of hp, fun l hl => q _ (upd G l (.tup vs)) _ (Ext.new hx hl) (.tup upd_same (ra.mono (Ex.new (fresh_back hx hl))))⟩⟩
/-- list(range(a, b)), tuple(range(a, b)) -/
theorem rgV_data (H : Hp) (a b : Int) : RpAll H (rgV a b) ((List.range (b - a).toNat).map fun k => .int (a + (k : Nat))) := by
  unfold rgV
  generalize List.range (b - a).toNat = l
  induction l with
  | nil => exact .nil
  | cons x r ih => exact .cons (.int _) ih
theorem nl_listRg (ha : DVr H0 ta ρ (.int i)) (hb : DVr H0 tb ρ (.int j)) (ok : RgOk i j) : NL H0 (tLstRg (tRg2 ta tb)) ρ ((List.range (j - i).toNat).map fun k => .int (i + (k : Nat))) := fun σ G H hx S Q q =>
  ha σ G H hx S _ fun x H1 e1 r1 => hb σ G H1 (Ex.trans hx e1) (S.ext (Ext.hs hx e1)) _ fun y H2 e2 r2 =>
    ⟨i, j, r1.int_inv, r2.int_inv, ok, fun p hp => q p _ G _ (Ext.hs hx (Ex.trans (Ex.trans e1 e2) (Ex.new hp))) (fresh_back (Ex.trans e1 e2) hp) (fresh_back (Ex.trans hx (Ex.trans e1 e2)) hp) upd_same (rgV_data G i j)⟩
theorem dv_tupRg (ha : DVr H0 ta ρ (.int i)) (hb : DVr H0 tb ρ (.int j)) (ok : RgOk i j) : DV H0 (tTupRg (tRg2 ta tb)) ρ (.tuple ((List.range (j - i).toNat).map fun k => .int (i + (k : Nat)))) := fun σ G H hx S Q q =>
  ha σ G H hx S _ fun x H1 e1 r1 => hb σ G H1 (Ex.trans hx e1) (S.ext (Ext.hs hx e1)) _ fun y H2 e2 r2 =>
    ⟨i, j, r1.int_inv, r2.int_inv, ok, fun p hp => q _ (upd G p (.tup (rgV i j))) _ ((Ext.hs hx (Ex.trans e1 e2)).trans (Ext.new (Ex.trans hx (Ex.trans e1 e2)) hp)) (.tup upd_same (rgV_data _ i j))⟩
/-- xs + ys, t + u, xs * n, xs[a:b] -/
theorem nl_cat (ha : DV H0 ta ρ (.list ds)) (hb : DV H0 tb ρ (.list es)) (hl : ds.length + es.length ≤ 100000) : NL H0 (tOp rCat ta tb) ρ (ds ++ es) := fun σ G H hx S Q q =>
  ha σ G H hx S _ fun x G1 H1 x1 r1 => hb σ G1 H1 x1.gh (S.ext x1) _ fun y G2 H2 x2 r2 => by
    obtain ⟨a, xs, rfl, h, ra⟩ := r1.lst_inv
    obtain ⟨c, ys, rfl, h', rb⟩ := r2.lst_inv
    have xx := x1.trans x2
    exact ⟨a, c, xs, ys, rfl, rfl, x2.h _ _ (x1.gh _ _ h), x2.gh _ _ h', sz_of (by rw [ra.len, rb.len]; exact hl), fun p hp => q p _ G2 _ (xx.trans (Ext.hs xx.gh (Ex.new hp))) (fresh_back xx.h hp) (fresh_back xx.gh hp) upd_same ((ra.mono x2.g).append rb)⟩
theorem dv_catT (ha : DV H0 ta ρ (.tuple ds)) (hb : DV H0 tb ρ (.tuple es)) (hl : ds.length + es.length ≤ 100000) : DV H0 (tOp (rCatA K) ta tb) ρ (.tuple (ds ++ es)) := fun σ G H hx S Q q =>
  ha σ G H hx S _ fun x G1 H1 x1 r1 => hb σ G1 H1 x1.gh (S.ext x1) _ fun y G2 H2 x2 r2 => by
    obtain ⟨a, xs, rfl, h, ra⟩ := r1.tup_inv
    obtain ⟨c, ys, rfl, h', rb⟩ := r2.tup_inv
    have xx := x1.trans x2
    refine ⟨a, c, xs, ys, rfl, rfl, SqT.of (x2.h _ _ (x1.gh _ _ h)), SqT.of (x2.gh _ _ h'), sz_of (by rw [ra.len, rb.len]; exact hl), fun z => ?_, fun _ z => ?_, fun _ _ p hp => ?_⟩
    · subst z
      cases ra
      exact q _ G2 H2 xx (.tup h' rb)
    · subst z
      cases rb
      exact q _ G2 H2 xx (by
        rw [List.append_nil]
        exact .tup (x2.g _ _ h) (ra.mono x2.g))
    · exact q _ (upd G2 p (.tup (xs ++ ys))) _ (xx.trans (Ext.new xx.gh hp)) (.tup upd_same (((ra.mono x2.g).append rb).mono (Ex.new (fresh_back xx.gh hp))))
theorem nl_rep {n : Nat} (ha : NL H0 ta ρ [d]) (hb : DVr H0 tb ρ (.int (n : Int))) (hn : n ≤ 100000) : NL H0 (tOp rRep ta tb) ρ (List.replicate n d) := fun σ G H hx S Q q =>
  ha σ G H hx S _ fun p vs G1 H1 x1 hp gp h1 r1 => hb σ G1 H1 x1.gh (S.ext x1) _ fun y H2 e2 r2 => by
    have hn2 : (n : Int).toNat = n := Int.toNat_natCast n
    cases r1 with
    | cons rv rr =>
      cases rr
      rename_i v
      refine ⟨p, (n : Int), [v], rfl, r2.int_inv, e2 _ _ h1, by omega, by omega, by rw [hn2, List.length_singleton]; exact sz_of (by omega), fun l hl => ?_⟩
      have e : (List.replicate (n : Int).toNat [v]).flatten = List.replicate n v := by
        rw [hn2]
        generalize n = m
        induction m with
        | zero => rfl
        | succ m ih =>
          rw [List.replicate_succ, List.flatten_cons, ih, List.replicate_succ]
          rfl
      rw [e]
      have xx := x1.trans (Ext.hs x1.gh e2)
      exact q l _ G1 _ (xx.trans (Ext.hs xx.gh (Ex.new hl))) (fresh_back xx.h hl) (fresh_back xx.gh hl) upd_same (RpAll.rep n rv)
theorem ov_none : OV H0 tNoPart ρ none := fun σ G H hx S Q q => q H (Ex.refl H)
theorem ov_some (h : DVr H0 te ρ (.int i)) : OV H0 (tPart te) ρ (some i) := fun σ G H hx S Q q => h σ G H hx S _ fun v H1 e r => ⟨i, r.int_inv, q H1 e⟩
theorem nl_sl {tl th : TO} {lo hi : Option Int} {a z : Nat} (h : DV H0 te ρ (.list ds)) (h1 : OV H0 tl ρ lo) (h2 : OV H0 th ρ hi) (ea : HT.sIx ds.length 0 lo = a) (ez : HT.sIx ds.length ds.length hi = z) : NL H0 (tSl (rSlL K) te tl th) ρ ((ds.drop a).take (z - a)) := fun σ G H hx S Q q =>
  h σ G H hx S _ fun x G1 H1 x1 r1 => h1 σ G1 H1 x1.gh (S.ext x1) _ fun H2 e2 => h2 σ G1 H2 (Ex.trans x1.gh e2) ((S.ext x1).ext (Ext.hs x1.gh e2)) _ fun H3 e3 => by
    obtain ⟨a', xs, rfl, h, ra⟩ := r1.lst_inv
    have x3 := x1.trans (Ext.hs x1.gh (Ex.trans e2 e3))
    refine ⟨a', xs, rfl, SqL.of (e3 _ _ (e2 _ _ (x1.gh _ _ h))), fun p hp => q p _ G1 _ (x3.trans (Ext.hs x3.gh (Ex.new hp))) (fresh_back x3.h hp) (fresh_back x3.gh hp) upd_same ?_⟩
    unfold cutV
    rw [ra.len, ea, ez]
    exact (ra.drop a).take (z - a)
/-- any -/
theorem dv_any {bs : List Bool} (h : DVr H0 te ρ (.list (bs.map .bool))) : DV H0 (tCB (rAny K) (tCons te tNil)) ρ (.bool (bs.any id)) := fun σ G H hx S Q q =>
  h σ G H hx S _ fun v H1 e1 r => by
    obtain ⟨a, xs, rfl, h, ra⟩ := r.lst_inv
    obtain rfl := ra.bls
    exact ⟨a, bs, rfl, SqL.of h, q _ G H1 (Ext.hs hx e1) (.bl _)⟩
theorem dv_max (ha : DVr H0 ta ρ (.int i)) (hb : DVr H0 tb ρ (.int j)) : DV H0 (tCB (fun xs H Q => ∃ i j, xs = [.int i, .int j] ∧ Q (.int (if j > i then j else i)) H) (tCons ta (tCons tb tNil))) ρ (.int (if j > i then j else i)) := fun σ G H hx S Q q =>
  ha σ G H hx S _ fun x H1 e1 r1 => hb σ G H1 (Ex.trans hx e1) (S.ext (Ext.hs hx e1)) _ fun y H2 e2 r2 =>
    ⟨i, j, by rw [r1.int_inv, r2.int_inv], q _ G H2 (Ext.hs hx (Ex.trans e1 e2)) (.int _)⟩
theorem dv_abs (ha : DVr H0 ta ρ (.int i)) : DV H0 (tCB (fun xs H Q => ∃ i, xs = [.int i] ∧ Q (.int (if i < 0 then -i else i)) H) (tCons ta tNil)) ρ (.int (if i < 0 then -i else i)) := fun σ G H hx S Q q =>
  ha σ G H hx S _ fun x H1 e1 r1 => ⟨i, by rw [r1.int_inv], q _ G H1 (Ext.hs hx e1) (.int _)⟩
theorem dv_intB (ha : DVr H0 ta ρ (.bool b)) : DV H0 (tCB (fun xs H Q => (∃ i, xs = [.int i] ∧ Q (.int i) H) ∨ ∃ k, xs = [.bl k] ∧ Q (.int (if k then 1 else 0)) H) (tCons ta tNil)) ρ (.int (if b then 1 else 0)) := fun σ G H hx S Q q =>
  ha σ G H hx S _ fun x H1 e1 r1 => Or.inr ⟨b, by rw [r1.bl_inv], q _ G H1 (Ext.hs hx e1) (.int _)⟩
theorem dv_un {f : Int → Int} (ha : DVr H0 ta ρ (.int i)) : DV H0 (tUn (rU fun i => .int (f i)) ta) ρ (.int (f i)) := fun σ G H hx S Q q =>
  ha σ G H hx S _ fun x H1 e1 r1 => ⟨i, r1.int_inv, q _ G H1 (Ext.hs hx e1) (.int _)⟩
/-- and, or, not as values -/
theorem dv_and (ha : DVr H0 ta ρ (.bool b)) (hb : b = true → DVr H0 tb ρ (.bool c)) : DV H0 (tAndV ta tb) ρ (.bool (b && c)) := fun σ G H hx S Q q =>
  ha σ G H hx S _ fun x H1 e1 r1 => ⟨b, r1.bl_inv, by
    cases b with
    | false => exact q _ G H1 (Ext.hs hx e1) (.bl _)
    | true =>
      show tb σ H1 Q
      exact (hb rfl) σ G H1 (Ex.trans hx e1) (S.ext (Ext.hs hx e1)) _ fun y H2 e2 r2 => by
        rw [r2.bl_inv]
        exact q _ G H2 (Ext.hs hx (Ex.trans e1 e2)) (.bl _)⟩
theorem dv_not (ha : DVr H0 ta ρ (.bool b)) : DV H0 (tNotV ta) ρ (.bool (!b)) := fun σ G H hx S Q q =>
  ha σ G H hx S _ fun x H1 e1 r1 => ⟨b, r1.bl_inv, q _ G H1 (Ext.hs hx e1) (.bl _)⟩
/-! ### tests -/
theorem tv_val (h : DVr H0 te ρ (.bool b)) : TV H0 (tB te) ρ b := fun σ G H hx S Q q => h σ G H hx S _ fun v H1 e r => ⟨b, r.bl_inv, q H1 e⟩
theorem tv_cmp (h : DVr H0 te ρ (.bool b)) : TV H0 (tTest te) ρ b := fun σ G H hx S Q q => h σ G H hx S _ fun v H1 e r => ⟨b, r.bl_inv, q H1 e⟩
theorem tv_yes : TV H0 tYes ρ true := fun σ G H hx S Q q => q H (Ex.refl H)
theorem tv_not (h : TV H0 tt ρ b) : TV H0 (tNot tt) ρ (!b) := fun σ G H hx S Q q => h σ G H hx S _ fun H1 e => q H1 e
theorem tv_and (h : TV H0 tt ρ b) (hb : b = true → TV H0 tu ρ c) : TV H0 (tAnd tt tu) ρ (b && c) := fun σ G H hx S Q q => h σ G H hx S _ fun H1 e => by
  cases b with
  | false => exact q H1 e
  | true =>
    show tu σ H1 Q
    exact (hb rfl) σ G H1 (Ex.trans hx e) (S.ext (Ext.hs hx e)) _ fun H2 e2 => q H2 (Ex.trans e e2)
theorem tv_or (h : TV H0 tt ρ b) (hb : b = false → TV H0 tu ρ c) : TV H0 (tOr tt tu) ρ (b || c) := fun σ G H hx S Q q => h σ G H hx S _ fun H1 e => by
  cases b with
  | true => exact q H1 e
  | false =>
    show tu σ H1 Q
    exact (hb rfl) σ G H1 (Ex.trans hx e) (S.ext (Ext.hs hx e)) _ fun H2 e2 => q H2 (Ex.trans e e2)
theorem TV.is (h : TV H0 tt ρ b) (e : b = c) : TV H0 tt ρ c := e ▸ h
theorem DV.is (h : DV H0 te ρ d) (x : d = e) : DV H0 te ρ e := x ▸ h
theorem DVr.is (h : DVr H0 te ρ d) (x : d = e) : DVr H0 te ρ e := x ▸ h
theorem NL.is (h : NL H0 te ρ ds) (x : ds = es) : NL H0 te ρ es := x ▸ h
end
end U
namespace U
open PySem L2 Evl

/-! ### comprehensions -/
/-- the slots within a comprehension -/
abbrev cR (ρ : Rho) (j : Nat) (d : PyData) : Rho := (ρ.set j .any).set j (.imm d)
section
variable {K : PySem.W.Frag} {H0 : Hp} {ρ : Rho} {ta tb te tl : TE} {tt : TT} {d : PyData} {ds : List PyData} {j : Nat}
theorem wipe1 {σ : L2.St} {x : Option V} : wipe ((wipe σ [j]).set j x) [j] = wipe σ [j] := by
  show ((σ.set j none).set j x).set j none = σ.set j none
  rw [List.set_set, List.set_set]
theorem take_yes {f : PyData → Bool} {g : PyData → PyData} {i : Nat} (h : ds[i]? = some d) (hf : f d = true) : ((ds.take (i + 1)).filter f).map g = ((ds.take i).filter f).map g ++ [g d] := by
  rw [List.take_add_one, h, List.filter_append, List.map_append]
  show _ ++ ((([d] : List PyData).filter f).map g) = _
  rw [List.filter_cons, if_pos hf]
  rfl
theorem take_no {f : PyData → Bool} {g : PyData → PyData} {i : Nat} (h : ds[i]? = some d) (hf : f d = false) : ((ds.take (i + 1)).filter f).map g = ((ds.take i).filter f).map g := by
  rw [List.take_add_one, h, List.filter_append, List.map_append]
  show _ ++ ((([d] : List PyData).filter f).map g) = _
  rw [List.filter_cons, if_neg (by rw [hf]; decide)]
  exact List.append_nil _
theorem lc_dat {J : It} {n : Nat} {Gs : Hp → Prop} {Y : Nat → Hp → V → Hp → Prop} {σ : L2.St} {G1 H1 : Hp} {D : Addr} {Qd : Hp → Prop} (w : Walk J n Gs Y) (e1 : Ex G1 H1) (S : Slots H0 ρ σ G1 H1) (hG : ∀ H', Ex H1 H' → Gs H')
    (hY : ∀ i H x H', i < n → Ex H1 H → Y i H x H' → H' = H ∧ ∃ d, ds[i]? = some d ∧ Rp G1 x d) (hn : n = ds.length) (hz : n ≤ 40000) (hD : H1 D = none) (f : PyData → Bool) (g : PyData → PyData)
    (ht : ∀ d, d ∈ ds → TV H0 tt (cR ρ j d) (f d)) (he : ∀ d, d ∈ ds → f d = true → DV H0 te (cR ρ j d) (g d))
    (k : ∀ vs G' H', Ext G1 H1 G' H' → G' D = none → H' D = some (.lst vs) → RpAll G' vs ((ds.filter f).map g) → Qd H') :
    ∃ W : Nat → Nat → Hp → Prop, (∃ m, W 0 m (upd H1 D (.lst []))) ∧ ∀ i m H, W i m H →
      (J.stop i H ∧ Qd H) ∨ (J.go i H ∧ ∃ Nx : Hp → Prop, (∀ H', Nx H' → ∃ m', m' < m ∧ W (i + 1) m' H') ∧ ∀ x H', J.yld i H x H' → gName j x (wipe σ [j]) H' fun σ2 H2 => wipe σ2 [j] = wipe σ [j] ∧ tt σ2 H2 fun b H3 =>
        if b = true then te σ2 H3 fun y H4 => ∃ acc, H4 D = some (.lst acc) ∧ acc.length < sizeLine ∧ Nx (upd H4 D (.lst (acc ++ [y]))) else Nx H3) := by
  refine lc_it w (fun i H' => ∃ G' vs, Ext G1 H1 G' H' ∧ G' D = none ∧ H' D = some (.lst vs) ∧ vs.length ≤ i ∧ RpAll G' vs (((ds.take i).filter f).map g)) ⟨G1, [], Ext.hs e1 (Ex.new hD), fresh_back e1 hD, upd_same, Nat.le_refl _, .nil⟩
    (fun i H' _ ⟨_, _, x, _⟩ => hG H' x.h) (fun i x H' H2 hi ⟨G', vs, x', gD, hD', hlen, rv⟩ y => ?_) (fun H' ⟨G', vs, x', gD, hD', _, rv⟩ => k vs G' H' x' gD hD' (by rw [hn, List.take_length] at rv; exact rv))
  obtain ⟨rfl, d, hd, rd⟩ := hY i H' x H2 hi x'.h y
  have hm : d ∈ ds := List.mem_of_getElem? hd
  have S' : Slots H0 (cR ρ j d) ((wipe σ [j]).set j (some x)) G' H2 := ((S.ext x').setAny (i := j) (s := none)).setImm (rd.mono x'.g)
  refine ⟨wipe1, ht d hm _ G' H2 x'.gh S' _ fun H3 e3 => ?_⟩
  cases hf : f d with
  | false =>
    show ∃ G' vs, _
    exact ⟨G', vs, x'.trans (Ext.hs x'.gh e3), gD, e3 D _ hD', Nat.le_succ_of_le hlen, by rw [take_no hd hf]; exact rv⟩
  | true =>
    show te _ H3 _
    refine he d hm hf _ G' H3 (Ex.trans x'.gh e3) (S'.ext (Ext.hs x'.gh e3)) _ fun y G4 H4 x4 r4 => ?_
    have gD4 : G4 D = none := x4.fr D gD (ne_none (e3 D _ hD'))
    exact ⟨vs, x4.h D _ (e3 D _ hD'), sz_lt (by omega), G4, vs ++ [y], ((x'.trans (Ext.hs x'.gh e3)).trans x4).own hD gD4, gD4, upd_same, by rw [List.length_append, List.length_singleton]; omega,
      by rw [take_yes hd hf]; exact (rv.mono x4.g).append (.one r4)⟩
theorem nl_lc (hl : DV H0 tl ρ (.list ds)) (f : PyData → Bool) (g : PyData → PyData) (hz : ds.length ≤ 40000) (ht : ∀ d, d ∈ ds → TV H0 tt (cR ρ j d) (f d)) (he : ∀ d, d ∈ ds → f d = true → DV H0 te (cR ρ j d) (g d)) :
    NL H0 (tLc (iList K tl) (gName j) tt te [j]) ρ ((ds.filter f).map g) := fun σ G H hx S Q q => hl σ G H hx S _ fun v G1 H1 x1 r1 => by
  obtain ⟨a, xs, rfl, h, ra⟩ := r1.lst_inv
  refine ⟨a, rfl, ⟨xs, SqL.of (x1.gh _ _ h)⟩, fun D hD => lc_dat (walk_list (K := K) (a := a) (xs := xs)) x1.gh (S.ext x1) (fun H' e => SqL.of (e _ _ (x1.gh _ _ h))) (fun i H' x H2 _ _ y => ⟨y.1, ra.ofV y.2⟩) ra.len (by rw [ra.len]; exact hz) hD f g ht he
    fun vs G' H' x' gD hD' rv => q D vs G' H' (x1.trans x') (fresh_back x1.h hD) gD hD' rv⟩
theorem nl_lcT (hl : DV H0 tl ρ (.tuple ds)) (f : PyData → Bool) (g : PyData → PyData) (hz : ds.length ≤ 40000) (ht : ∀ d, d ∈ ds → TV H0 tt (cR ρ j d) (f d)) (he : ∀ d, d ∈ ds → f d = true → DV H0 te (cR ρ j d) (g d)) :
    NL H0 (tLc (iTup K tl) (gName j) tt te [j]) ρ ((ds.filter f).map g) := fun σ G H hx S Q q => hl σ G H hx S _ fun v G1 H1 x1 r1 => by
  obtain ⟨a, xs, rfl, h, ra⟩ := r1.tup_inv
  refine ⟨a, rfl, ⟨xs, SqT.of (x1.gh _ _ h)⟩, fun D hD => lc_dat (walk_tup (K := K) (a := a) (xs := xs)) x1.gh (S.ext x1) (fun H' e => SqT.of (e _ _ (x1.gh _ _ h))) (fun i H' x H2 _ _ y => ⟨y.1, ra.ofV y.2⟩) ra.len (by rw [ra.len]; exact hz) hD f g ht he
    fun vs G' H' x' gD hD' rv => q D vs G' H' (x1.trans x') (fresh_back x1.h hD) gD hD' rv⟩
/-- the whole numbers from lo to below hi -/
def rgD (lo hi : Int) : List PyData := (List.range (hi - lo).toNat).map fun k => .int (lo + (k : Nat))
theorem rgD_len (lo hi : Int) : (rgD lo hi).length = (hi - lo).toNat := by unfold rgD; rw [List.length_map, List.length_range]
theorem rgD_at {lo hi : Int} {i : Nat} (h : i < (hi - lo).toNat) : (rgD lo hi)[i]? = some (.int (lo + (i : Nat))) := by
  unfold rgD
  rw [List.getElem?_map, List.getElem?_range h]
  rfl
theorem nl_lcR {lo hi : Int} {ta : TA} (hl : AVr H0 ta ρ [.int lo, .int hi]) (f : PyData → Bool) (g : PyData → PyData) (hb : 0 ≤ lo ∧ lo ≤ 40000 ∧ 0 ≤ hi ∧ hi ≤ 40000) (ht : ∀ d, d ∈ rgD lo hi → TV H0 tt (cR ρ j d) (f d)) (he : ∀ d, d ∈ rgD lo hi → f d = true → DV H0 te (cR ρ j d) (g d)) :
    NL H0 (tLc (iRng2 ta) (gName j) tt te [j]) ρ (((rgD lo hi).filter f).map g) := fun σ G H hx S Q q => hl σ G H hx S _ fun v H1 e1 r1 => by
  have x1 := Ext.hs hx e1
  cases r1 with
  | cons ra rr =>
    cases rr with
    | cons rb rr =>
      cases rr
      refine ⟨lo, hi, by rw [ra.int_inv, rb.int_inv], ⟨by omega, by omega, by omega, by omega⟩, fun D hD => lc_dat (walk_range (lo := lo) (n := (hi - lo).toNat)) x1.gh (S.ext x1) (fun _ _ => True.intro) (fun i H' x H2 hi _ y => ⟨y.1, _, rgD_at hi, by rw [y.2]; exact .int _⟩) (rgD_len lo hi).symm (by omega) hD f g ht he
        fun vs G' H' x' gD hD' rv => q D vs G' H' (x1.trans x') (fresh_back x1.h hD) gD hD' rv⟩
end

/-! ### statements -/
inductive Out where
  | nx (ρ : Rho)
  | rt (d : PyData)
def OutOk (G0 H0 G : Hp) (D : Ends) : Out → Prop
  | .nx ρ => ∀ σ G' H', Ext G0 H0 G' H' → Ex G G' → Slots H0 ρ σ G' H' → D.nx σ H'
  | .rt d => ∀ v G' H', Ext G0 H0 G' H' → Ex G G' → Rp G' v d → D.rt v H'
/-- the statement leads from the slots ρ to o -/
def Does (G0 H0 : Hp) (t : TS) (ρ : Rho) (o : Out) : Prop := ∀ D σ G H, Ext G0 H0 G H → Slots H0 ρ σ G H → OutOk G0 H0 G D o → t D σ H
theorem OutOk.mono {G0 H0 G G' : Hp} {D : Ends} (e : Ex G G') : ∀ {o : Out}, OutOk G0 H0 G D o → OutOk G0 H0 G' D o
  | .nx _, h => fun σ G1 H1 x e1 S => h σ G1 H1 x (Ex.trans e e1) S
  | .rt _, h => fun v G1 H1 x e1 r => h v G1 H1 x (Ex.trans e e1) r
section
variable {K : PySem.W.Frag} {G0 H0 : Hp} {ρ ρ' : Rho} {ta tb te tl : TE} {tt : TT} {d : PyData} {ds es : List PyData} {i j : Nat} {o : Out} {b : Bool} {t u : TS}
theorem does_asg (h : DV H0 te ρ d) : Does G0 H0 (tAsg te (gName i)) ρ (.nx (ρ.set i (.imm d))) := fun D σ G H x S k =>
  h σ G H x.gh S _ fun v G' H' x' r => k _ G' H' (x.trans x') x'.g ((S.ext x').setImm r)
theorem does_own (h : NL H0 te ρ ds) : Does G0 H0 (tAsg te (gName i)) ρ (.nx (ρ.set i (.own ds))) := fun D σ G H x S k =>
  h σ G H x.gh S _ fun p vs G' H' x' hp gp h' r => k _ G' H' (x.trans x') x'.g (S.setOwn x' hp h' r gp (fresh_back x.h hp))
theorem does_seq (h : Does G0 H0 t ρ (.nx ρ')) (k : Does G0 H0 u ρ' o) : Does G0 H0 (tSeq t u) ρ o := fun D σ G H x S q =>
  h { D with nx := u D } σ G H x S fun σ' G' H' x' e' S' => k D σ' G' H' x' S' (q.mono e')
theorem does_seqR (h : Does G0 H0 t ρ (.rt d)) : Does G0 H0 (tSeq t u) ρ (.rt d) := fun D σ G H x S q => h { D with nx := u D } σ G H x S q
theorem does_if (h : TV H0 tt ρ b) (h1 : b = true → Does G0 H0 t ρ o) (h2 : b = false → Does G0 H0 u ρ o) : Does G0 H0 (tIfS tt t u) ρ o := fun D σ G H x S q => h σ G H x.gh S _ fun H1 e => by
  have x1 := Ext.hs x.gh e
  cases b with
  | true => exact (h1 rfl) D σ G H1 (x.trans x1) (S.ext x1) q
  | false => exact (h2 rfl) D σ G H1 (x.trans x1) (S.ext x1) q
theorem does_next : Does G0 H0 tNext ρ (.nx ρ) := fun D σ G H x S q => q σ G H x (Ex.refl G) S
theorem does_ret (h : DV H0 te ρ d) : Does G0 H0 (tRet te) ρ (.rt d) := fun D σ G H x S q => h σ G H x.gh S _ fun v G' H' x' r => q v G' H' (x.trans x') x'.g r
theorem does_still (i : Nat) (h : ρ[i]? = some (.own ds)) (k : Does G0 H0 t (ρ.set i (.imm (.list ds))) o) : Does G0 H0 t ρ o := fun D σ G H x S q => by
  obtain ⟨p, vs, hs, hp, r, gp, h0⟩ := S.own_at h
  exact k D σ (upd G p (.lst vs)) H (x.still h0 gp hp) (S.still h hs hp) (q.mono (Ex.new gp))
theorem does_retO {i : Nat} (h : ρ[i]? = some (.own ds)) : Does G0 H0 (tRet (tVar i)) ρ (.rt (.list ds)) :=
  does_still i h (does_ret (dv_var (List.getElem?_set_self (List.getElem?_eq_some_iff.mp h).1)))
theorem does_forget (i : Nat) (k : Does G0 H0 t (ρ.set i .any) o) : Does G0 H0 t ρ o := fun D σ G H x S q => k D σ G H x S.forget q
theorem does_app (h : ρ[i]? = some (.own ds)) (he : DV H0 te ρ d) (hl : ds.length < 100000) : Does G0 H0 (tDrop (tBM K "list" rAppend (tVar i) (tCons te tNil))) ρ (.nx (ρ.set i (.own (ds ++ [d])))) := fun D σ G H x S k => by
  obtain ⟨p, vs, hs, hp, r, gp, h0⟩ := S.own_at h
  refine ⟨_, hs, Or.inl ⟨rfl, vs, sq_of hp⟩, he σ G H x.gh S _ fun v G' H' x' r' => ⟨p, vs, v, rfl, rfl, x'.h _ _ hp, sz_lt (by rw [r.len]; exact hl), ?_⟩⟩
  exact k σ G' _ ((x.trans x').own h0 (x'.fr p gp (ne_none hp))) x'.g ((S.ext x').change h hs ((r.mono x'.g).append (.one r')))
theorem does_ext (h : ρ[i]? = some (.own ds)) (he : DV H0 te ρ (.list es)) (hl : ds.length + es.length ≤ 100000) : Does G0 H0 (tDrop (tBM K "list" rExtend (tVar i) (tCons te tNil))) ρ (.nx (ρ.set i (.own (ds ++ es)))) := fun D σ G H x S k => by
  obtain ⟨p, vs, hs, hp, r, gp, h0⟩ := S.own_at h
  refine ⟨_, hs, Or.inl ⟨rfl, vs, sq_of hp⟩, he σ G H x.gh S _ fun v G' H' x' r' => ?_⟩
  obtain ⟨a, xs, rfl, ha, ra⟩ := r'.lst_inv
  refine ⟨p, a, vs, xs, rfl, rfl, x'.h _ _ hp, x'.gh _ _ ha, sz_of (by rw [r.len, ra.len]; exact hl), ?_⟩
  exact k σ G' _ ((x.trans x').own h0 (x'.fr p gp (ne_none hp))) x'.g ((S.ext x').change h hs ((r.mono x'.g).append ra))
/-- xs[n] = e -/
theorem does_set {n : Nat} {m : Int} (h : ρ[i]? = some (.own ds)) (he : DV H0 te ρ d) (hi : DVr H0 tb ρ (.int m)) (em : m = (n : Int)) (hl : n < ds.length) : Does G0 H0 (tAsg te (gSub (tVar i) tb rSetL)) ρ (.nx (ρ.set i (.own (ds.set n d)))) := fun D σ G H x S k =>
  he σ G H x.gh S _ fun v G' H' x' r' => by
    have S1 := S.ext x'
    obtain ⟨p, vs, hs, hp, r, gp, h0⟩ := S1.own_at h
    refine ⟨_, hs, hi σ G' H' x'.gh S1 _ fun y H2 e2 r2 => ?_⟩
    have x2 := Ext.hs x'.gh e2
    refine ⟨p, vs, m, n, rfl, r2.int_inv, e2 _ _ hp, by rw [em]; exact ixN_nat (by rw [r.len]; exact hl), ?_⟩
    exact k σ G' _ (((x.trans x').trans x2).own h0 gp) x'.g ((S1.ext x2).change h hs (r.set n r'))
/-- a, b = e, f -/
theorem does_par {ta : TA} {d e : PyData} (h : AV H0 ta ρ [d, e]) : Does G0 H0 (tPar i j ta) ρ (.nx ((ρ.set i (.imm d)).set j (.imm e))) := fun D σ G H x S k => h σ G H x.gh S _ fun vs G' H' x' rs => by
  cases rs with
  | cons r rs =>
    cases rs with
    | cons r' rs =>
      cases rs
      exact ⟨_, _, rfl, k _ G' H' (x.trans x') x'.g (((S.ext x').setImm r).setImm r')⟩
theorem does_aug {f : Int → Int → Int} {m n : Int} (h : ρ[i]? = some (.imm (.int m))) (he : DVr H0 te ρ (.int n)) : Does G0 H0 (tAug i te (ipI f)) ρ (.nx (ρ.set i (.imm (.int (f m n))))) := fun D σ G H x S k => by
  obtain ⟨v, hv, r⟩ := S.imm_at h
  obtain rfl := r.int_inv
  refine ⟨_, hv, he σ G H x.gh S _ fun y H1 e1 r1 => ?_⟩
  have x1 := Ext.hs x.gh e1
  exact ⟨m, n, rfl, r1.int_inv, k _ G H1 (x.trans x1) (Ex.refl G) ((S.ext x1).setImm (.int _))⟩
/-! ### loops -/
theorem for_dat {J : It} {n : Nat} {Gs : Hp → Prop} {Y : Nat → Hp → V → Hp → Prop} {σ : L2.St} {G H : Hp} {D : Ends} {tb : TS} (w : Walk J n Gs Y) (x : Ext G0 H0 G H) (ρs : Nat → Rho) (S : Slots H0 (ρs 0) σ G H) (hG : ∀ G' H', Ex G G' → Ex G' H' → Gs H')
    (hY : ∀ i H' x H2, i < n → Y i H' x H2 → H2 = H' ∧ ∃ d, ds[i]? = some d ∧ Rp G x d) (hn : n = ds.length)
    (hs : ∀ i d, ds[i]? = some d → Does G0 H0 tb ((ρs i).set j (.imm d)) (.nx (ρs (i + 1)))) (k : OutOk G0 H0 G D (.nx (ρs ds.length))) :
    ∃ W : Nat → Nat → L2.St → Hp → Prop, (∃ m, W 0 m σ H) ∧ ∀ i m σ H, W i m σ H →
      (J.stop i H ∧ D.nx σ H) ∨ (J.go i H ∧ ∃ N : L2.St → Hp → Prop, (∀ σ' H', N σ' H' → ∃ m', m' < m ∧ W (i + 1) m' σ' H') ∧ ∀ x H', J.yld i H x H' → gName j x σ H' fun σ2 H2 => tb { D with nx := N, ct := N, bk := D.nx } σ2 H2) := by
  refine for_it w (fun i σ' H' => ∃ G', Ext G0 H0 G' H' ∧ Ex G G' ∧ Slots H0 (ρs i) σ' G' H') ⟨G, x, Ex.refl G, S⟩ (fun i σ' H' _ ⟨G', x', e', _⟩ => hG G' H' e' x'.gh) (fun i v σ' H' H2 hi ⟨G', x', e', S'⟩ y => ?_) fun σ' H' ⟨G', x', e', S'⟩ => k σ' G' H' x' e' (by rw [← hn]; exact S')
  obtain ⟨rfl, d, hd, rd⟩ := hY i H' v H2 hi y
  exact hs i d hd _ _ G' H2 x' (S'.setImm (rd.mono e')) fun σ2 G2 H2 x2 e2 S2 => ⟨G2, x2, Ex.trans e' e2, S2⟩
theorem does_for {tb : TS} (hl : DV H0 tl ρ (.list ds)) (ρs : Nat → Rho) (h0 : ρs 0 = ρ) (hs : ∀ i d, ds[i]? = some d → Does G0 H0 tb ((ρs i).set j (.imm d)) (.nx (ρs (i + 1)))) : Does G0 H0 (tFor (iList K tl) (gName j) tb) ρ (.nx (ρs ds.length)) := fun D σ G H x S k =>
  hl σ G H x.gh S _ fun v G1 H1 x1 r1 => by
    obtain ⟨a, xs, rfl, h, ra⟩ := r1.lst_inv
    exact ⟨a, rfl, ⟨xs, SqL.of (x1.gh _ _ h)⟩, for_dat (walk_list (K := K) (a := a) (xs := xs)) (x.trans x1) ρs (by rw [h0]; exact S.ext x1) (fun G' H' e e' => SqL.of (e' _ _ (e _ _ h))) (fun i H' x H2 _ y => ⟨y.1, ra.ofV y.2⟩) ra.len hs (k.mono x1.g)⟩
theorem does_forR {tb : TS} {lo hi : Int} {ta : TA} (hl : AVr H0 ta ρ [.int lo, .int hi]) (hb : 0 ≤ lo ∧ lo ≤ 40000 ∧ 0 ≤ hi ∧ hi ≤ 40000) (ρs : Nat → Rho) (h0 : ρs 0 = ρ) (hs : ∀ (i : Nat) d, (rgD lo hi)[i]? = some d → Does G0 H0 tb ((ρs i).set j (.imm d)) (.nx (ρs (i + 1)))) :
    Does G0 H0 (tFor (iRng2 ta) (gName j) tb) ρ (.nx (ρs (hi - lo).toNat)) := fun D σ G H x S k => hl σ G H x.gh S _ fun v H1 e1 r1 => by
  have x1 := Ext.hs x.gh e1
  cases r1 with
  | cons ra rr =>
    cases rr with
    | cons rb rr =>
      cases rr
      exact ⟨lo, hi, by rw [ra.int_inv, rb.int_inv], ⟨by omega, by omega, by omega, by omega⟩, for_dat (ds := rgD lo hi) (walk_range (lo := lo) (n := (hi - lo).toNat)) (x.trans x1) ρs (by rw [h0]; exact S.ext x1) (fun _ _ _ _ => True.intro) (fun i H' x H2 hi y => ⟨y.1, _, rgD_at hi, by rw [y.2]; exact .int _⟩) (rgD_len lo hi).symm hs (by rw [rgD_len]; exact k)⟩
theorem does_forR1 {tb : TS} {hi : Int} {ta : TA} (hl : AVr H0 ta ρ [.int hi]) (hb : 0 ≤ hi ∧ hi ≤ 40000) (ρs : Nat → Rho) (h0 : ρs 0 = ρ) (hs : ∀ (i : Nat) d, (rgD 0 hi)[i]? = some d → Does G0 H0 tb ((ρs i).set j (.imm d)) (.nx (ρs (i + 1)))) :
    Does G0 H0 (tFor (iRng1 ta) (gName j) tb) ρ (.nx (ρs hi.toNat)) := fun D σ G H x S k => hl σ G H x.gh S _ fun v H1 e1 r1 => by
  have x1 := Ext.hs x.gh e1
  cases r1 with
  | cons ra rr =>
    cases rr
    have e0 : (hi - 0).toNat = hi.toNat := by rw [Int.sub_zero]
    exact ⟨hi, by rw [ra.int_inv], by omega, by omega, for_dat (ds := rgD 0 hi) (walk_range (lo := 0) (n := hi.toNat)) (x.trans x1) ρs (by rw [h0]; exact S.ext x1) (fun _ _ _ _ => True.intro) (fun i H' x H2 hi y => ⟨y.1, _, rgD_at (by rw [e0]; exact hi), by rw [y.2]; exact .int _⟩) (by rw [rgD_len, e0]) hs (by rw [rgD_len, e0]; exact k)⟩
/-- for a, b in enumerate(xs) -/
theorem does_forE {tb : TS} {ta : TA} {m n : Nat} (hl : AV H0 ta ρ [.list ds]) (ρs : Nat → Rho) (h0 : ρs 0 = ρ) (hs : ∀ i d, ds[i]? = some d → Does G0 H0 tb (((ρs i).set m (.imm (.int (i : Nat)))).set n (.imm d)) (.nx (ρs (i + 1)))) :
    Does G0 H0 (tFor (iEnum K ta) (gTup K 2 (gCons (gName m) (gCons (gName n) gNil))) tb) ρ (.nx (ρs ds.length)) := fun D σ G H x S k => hl σ G H x.gh S _ fun v G1 H1 x1 r1 => by
  cases r1 with
  | cons r rr =>
    cases rr
    obtain ⟨a, xs, rfl, h, ra⟩ := r.lst_inv
    refine ⟨a, xs, rfl, SqL.of (x1.gh _ _ h), for_it (walk_enum (K := K) (a := a) (xs := xs)) (fun i σ' H' => ∃ G', Ext G0 H0 G' H' ∧ Ex G1 G' ∧ Slots H0 (ρs i) σ' G' H') ⟨G1, x.trans x1, Ex.refl _, by rw [h0]; exact S.ext x1⟩
      (fun i σ' H' _ ⟨G', x', e', _⟩ => SqL.of (x'.gh _ _ (e' _ _ h))) (fun i v σ' H' H2 hi ⟨G', x', e', S'⟩ y => ?_) fun σ' H' ⟨G', x', e', S'⟩ => k σ' G' H' x' (Ex.trans x1.g e') (by rw [← ra.len]; exact S')⟩
    obtain ⟨T, y1, y2, rfl, hT, rfl, f1, f2⟩ := y
    cases f1
    obtain ⟨d, hd, rd⟩ := ra.ofV f2
    have xT := Ext.hs x'.gh (Ex.new (o := .tup [.int (i : Nat), y2]) hT)
    refine ⟨T, [.int (i : Nat), y2], rfl, SqT.of upd_same, rfl, _, _, rfl, _, _, rfl, rfl, ?_⟩
    exact hs i d hd _ _ G' _ (x'.trans xT) (((S'.ext xT).setImm (.int _)).setImm (rd.mono e')) fun σ2 G2 H2 x2 e2 S2 => ⟨G2, x2, Ex.trans e' e2, S2⟩
/-- while: n turns, then the test fails -/
theorem does_while {tb : TS} (n : Nat) (ρs : Nat → Rho) (h0 : ρs 0 = ρ) (ht : ∀ i, i < n → TV H0 tt (ρs i) true) (hs : ∀ i, i < n → Does G0 H0 tb (ρs i) (.nx (ρs (i + 1)))) (he : TV H0 tt (ρs n) false) : Does G0 H0 (tWhile tt tb) ρ (.nx (ρs n)) := fun D σ G H x S k => by
  refine ⟨fun m σ' H' => m ≤ n ∧ ∃ G', Ext G0 H0 G' H' ∧ Ex G G' ∧ Slots H0 (ρs (n - m)) σ' G' H', ⟨n, Nat.le_refl n, G, x, Ex.refl G, by rw [Nat.sub_self, h0]; exact S⟩, ?_⟩
  rintro m σ' H' ⟨hm, G', x', e', S'⟩
  cases m with
  | zero =>
    rw [Nat.sub_zero] at S'
    refine he σ' G' H' x'.gh S' _ fun H2 e2 => ?_
    have x2 := Ext.hs x'.gh e2
    exact k σ' G' H2 (x'.trans x2) e' (S'.ext x2)
  | succ m =>
    have hi : n - (m + 1) < n := by omega
    refine ht _ hi σ' G' H' x'.gh S' _ fun H2 e2 => ?_
    have x2 := Ext.hs x'.gh e2
    refine ⟨fun σ2 H3 => m ≤ n ∧ ∃ G', Ext G0 H0 G' H3 ∧ Ex G G' ∧ Slots H0 (ρs (n - m)) σ2 G' H3, fun σ2 H3 h => ⟨m, Nat.lt_succ_self m, h⟩, ?_⟩
    refine hs _ hi _ σ' G' H2 (x'.trans x2) (S'.ext x2) fun σ2 G3 H3 x3 e3 S3 => ⟨by omega, G3, x3, Ex.trans e' e3, ?_⟩
    rw [show n - m = n - (m + 1) + 1 by omega]
    exact S3
end

/-! ### promises -/
/-- a def that reads data that stand still, changes nothing, hands back data -/
def PSp (R : List PyData → PyData → Prop) : Sp := fun vs H Q _ => ∃ G ds d, Ex G H ∧ RpAll G vs ds ∧ R ds d ∧ ∀ v G' H', Ext G H G' H' → Rp G' v d → Q v H'
section
variable {K : PySem.W.Frag} {H0 : Hp} {ρ : Rho} {ds : List PyData} {d : PyData}
theorem dv_call {R : List PyData → PyData → Prop} {E : XK} {ta : TA} (h : AV H0 ta ρ ds) (hR : R ds d) : DV H0 (tCall (PSp R) [] E ta) ρ d := fun σ G H hx S Q q => h σ G H hx S _ fun vs G1 H1 x1 r =>
  ⟨G1, ds, d, x1.gh, by rw [List.append_nil]; exact r, hR, fun v G' H' x' r' => q v G' H' (x1.trans x') r'⟩
/-- the slots a def starts with -/
def startR (n : Nat) (ds : List PyData) : Rho := ds.map .imm ++ List.replicate n .any
theorem start_slots {N : List Str} {H0 G H : Hp} {vs : List V} (r : RpAll G vs ds) (n : Nat) (hn : N.length - ds.length = n) : Slots H0 (startR n ds) (L2.start N vs) G H := by
  have hl := r.len
  refine ⟨?_, fun i sl h => ?_, fun i j p ds' es h1 _ _ _ => ?_⟩
  · unfold L2.start startR
    rw [List.length_append, List.length_append, List.length_map, List.length_map, List.length_replicate, List.length_replicate, hl, hn]
  · unfold startR at h
    unfold L2.start
    by_cases hi : i < ds.length
    · rw [List.getElem?_append_left (by rw [List.length_map]; exact hi), List.getElem?_map] at h
      rw [List.getElem?_append_left (by rw [List.length_map, hl]; exact hi), List.getElem?_map]
      obtain ⟨e, he, hs⟩ := Option.map_eq_some_iff.mp h
      obtain ⟨v, hv, rv⟩ := r.at he
      rw [hv, ← hs]
      exact ⟨_, rfl, v, rfl, rv⟩
    · rw [List.getElem?_append_right (by rw [List.length_map]; omega), List.length_map] at h
      have q := (List.getElem?_eq_some_iff.mp h).1
      rw [List.length_replicate] at q
      rw [List.getElem?_replicate, if_pos q] at h
      cases h
      rw [List.getElem?_append_right (by rw [List.length_map, hl]; omega), List.length_map, List.getElem?_replicate, if_pos (by rw [hl, hn]; exact q)]
      exact ⟨_, rfl, True.intro⟩
  · exfalso
    unfold startR at h1
    by_cases hi : i < ds.length
    · rw [List.getElem?_append_left (by rw [List.length_map]; exact hi), List.getElem?_map] at h1
      obtain ⟨e, he, hs⟩ := Option.map_eq_some_iff.mp h1
      cases hs
    · rw [List.getElem?_append_right (by rw [List.length_map]; omega)] at h1
      obtain ⟨_, z⟩ := List.getElem?_eq_some_iff.mp h1
      rw [List.getElem_replicate] at z
      cases z
/-- the reading of a def's body -/
theorem rd_does {R : List PyData → PyData → Prop} {N : List Str} {vs : List V} {H : Hp} {Q : VK} {E : XK} {t : TS} {nx : L2.St → Hp → Prop} (n m : Nat) (h : PSp R vs H Q E) (hn : N.length - m = n) (hR : ∀ ds d, R ds d → ds.length = m) (k : ∀ G0 H0 ds d, R ds d → Does G0 H0 t (startR n ds) (.rt d)) :
    t { nx := nx, rt := Q } (L2.start N vs) H := by
  obtain ⟨G, ds, d, e, r, hr, q⟩ := h
  exact k G H ds d hr _ _ G H (Ext.refl e) (start_slots r n (by rw [hR ds d hr]; exact hn)) fun v G' H' x _ r' => q v G' H' x r'
theorem psp_len {R : List PyData → PyData → Prop} {vs : List V} {H : Hp} {Q : VK} {E : XK} {m : Nat} (hR : ∀ ds d, R ds d → ds.length = m) (h : PSp R vs H Q E) : vs.length = m := by
  obtain ⟨G, ds, d, e, r, hr, q⟩ := h
  rw [r.len, hR ds d hr]
end
end U
namespace U
open PySem L2 Evl
/-! ### a def, a method of the text -/
structure Dn (K : PySem.W.Frag) (mg : Str → Option Value) (x : Str) (st : Stmt) (ps : List Str) where
  f : Addr
  fd : FuncData
  F : Fun K x x st f fd
  b : Binds K fd ps []
  g : mg x = some (.ref f)
structure Dm (K : PySem.W.Frag) (C : Addr) (x qual : Str) (st : Stmt) (ps : List Str) where
  f : Addr
  fd : FuncData
  F : Fun K x qual st f fd
  b : Binds K fd ps []
  m : Meth K C x f
theorem hu64 {k : Nat} {A : Around} (hr : Room k A) : A.units + 64 < cLine := hr.units
theorem hu65 {k : Nat} {A : Around} (hr : Room k A) : A.units + 65 < cLine := by
  have h := hr.un
  omega
theorem pe_dn {X : Cx} {x : Str} {st : Stmt} {ps : List Str} {k m : Nat} {sp : Sp} {p pos : Pos} {e : Expr} {es : List Expr} {t : TA} (D : Dn X.K X.mg x st ps) (G : FnOk X.prog X.w X.K X.mg X.base CX0 k D.f D.fd ps sp) (hr : Room m X.A) (hk : k ≤ m) (ha : PA X (e :: es) t)
    (hg : Gl X x := by rfl) (hdb : (x == ("__debug__" : Str)) = false := by decide) (he : starEach (e :: es) X.env = (false, eval e X.env) :: starEach es X.env := by rfl) (hpl : (backTo pos (starEach es X.env)).any (·.1) = false := by rfl) :
    PE X (.Call (.Name x p) (e :: es) [] pos) (tCall sp [] E0 t) := pe_call G (hr.mono hk) hg D.g D.F.kp D.b .nil pass0 ha hdb he hpl
/-! ### the text by places -/
def top (i : Nat) : Stmt := PySem.Challenge.pw_undercells_k96_whole_hearths_by_tables.main.body.getD i (.Pass ⟨0, 0, 0, 0⟩)
abbrev s_is_whole : Stmt := top 6
abbrev s_plain_order : Stmt := top 7
abbrev s_back : Stmt := top 8
abbrev s_places_changed : Stmt := top 9
abbrev s_is_exchange : Stmt := top 10
abbrev s_exchanged : Stmt := top 11
abbrev s_all_orders : Stmt := top 13
abbrev s_look_few : Stmt := top 16
abbrev s_is_fall : Stmt := top 17
abbrev s_put : Stmt := top 18
abbrev s_without_noughts : Stmt := top 19
abbrev s_by_plain_kept : Stmt := top 20
abbrev s_K_init : Stmt := inClass (top 21) 0
abbrev s_K_of : Stmt := inClass (top 21) 1
abbrev s_K_found : Stmt := inClass (top 21) 2
abbrev s_K_polynomial : Stmt := inClass (top 21) 3
abbrev s_K_lead : Stmt := inClass (top 21) 4
abbrev s_K_tie : Stmt := inClass (top 21) 5
abbrev s_lead : Stmt := top 22
abbrev s_look_at : Stmt := top 25
abbrev s_has_other_fall : Stmt := top 26
abbrev s_led_at_once : Stmt := top 27
abbrev s_led_over : Stmt := top 28
abbrev s_right_hearths : Stmt := top 29
abbrev s_left_hearths : Stmt := top 30
abbrev s_both_hearths : Stmt := top 31
abbrev s_place_for : Stmt := top 33
abbrev s_put_in : Stmt := top 34
abbrev s_shape : Stmt := top 35
abbrev s_new_row : Stmt := top 36
abbrev s_tables : Stmt := top 37
abbrev s_number_at : Stmt := top 39
abbrev s_number_tables : Stmt := top 40
abbrev s_first_and_second : Stmt := top 41
abbrev s_matched : Stmt := top 42
abbrev s_law_cell : Stmt := top 44
abbrev s_law_bag : Stmt := top 45
abbrev s_law_mixed : Stmt := top 46
abbrev s_law_digit : Stmt := top 47
abbrev s_law_order : Stmt := top 48
abbrev s_law_one_hearth : Stmt := top 49
abbrev s_law_like : Stmt := top 50
abbrev s_law_numbers_right : Stmt := top 51
abbrev s_law : Stmt := top 52
abbrev s_Keeping : Stmt := top 21
/-! ### what the walk asks of the text as the top has left it -/
structure Txt (K : PySem.W.Frag) (mg : Str → Option Value) where
  is_whole : Dn K mg "is_whole" s_is_whole ["thing"]
  plain_order : Dn K mg "plain_order" s_plain_order ["n"]
  back : Dn K mg "back" s_back ["order"]
  places_changed : Dn K mg "places_changed" s_places_changed ["order", "i", "j"]
  is_exchange : Dn K mg "is_exchange" s_is_exchange ["k", "n"]
  exchanged : Dn K mg "exchanged" s_exchanged ["order", "k"]
  all_orders : Dn K mg "all_orders" s_all_orders ["n"]
  look_few : Dn K mg "look_few" s_look_few ["order"]
  is_fall : Dn K mg "is_fall" s_is_fall ["order", "k"]
  put : Dn K mg "put" s_put ["found", "order", "poly", "shift", "many"]
  without_noughts : Dn K mg "without_noughts" s_without_noughts ["found"]
  by_plain_kept : Dn K mg "by_plain_kept" s_by_plain_kept ["some", "k"]
  lead : Dn K mg "lead" s_lead ["one", "other"]
  look_at : Dn K mg "look_at" s_look_at ["n"]
  has_other_fall : Dn K mg "has_other_fall" s_has_other_fall ["one", "other"]
  led_at_once : Dn K mg "led_at_once" s_led_at_once ["keeping", "one", "orders"]
  led_over : Dn K mg "led_over" s_led_over ["ties", "one"]
  right_hearths : Dn K mg "right_hearths" s_right_hearths ["n"]
  left_hearths : Dn K mg "left_hearths" s_left_hearths ["n"]
  both_hearths : Dn K mg "both_hearths" s_both_hearths ["n"]
  place_for : Dn K mg "place_for" s_place_for ["row", "letter"]
  put_in : Dn K mg "put_in" s_put_in ["table", "letter"]
  shape : Dn K mg "shape" s_shape ["table"]
  new_row : Dn K mg "new_row" s_new_row ["less", "more"]
  tables : Dn K mg "tables" s_tables ["row"]
  number_at : Dn K mg "number_at" s_number_at ["keeping", "k", "one", "other"]
  number_tables : Dn K mg "number_tables" s_number_tables ["hearth"]
  first_and_second : Dn K mg "first_and_second" s_first_and_second ["order"]
  matched : Dn K mg "matched" s_matched ["one", "other"]
  law_cell : Dn K mg "_law_cell" s_law_cell ["_law_script", "_law_k"]
  law_bag : Dn K mg "_law_bag" s_law_bag ["_law_cell_here", "_law_place"]
  law_mixed : Dn K mg "_law_mixed" s_law_mixed ["_law_bag_here"]
  law_digit : Dn K mg "_law_digit" s_law_digit ["_law_bag_here", "_law_many"]
  law_order : Dn K mg "_law_order" s_law_order ["_law_bag_here", "_law_n"]
  law_one_hearth : Dn K mg "_law_one_hearth" s_law_one_hearth ["_law_found", "_law_one", "_law_other"]
  law_like : Dn K mg "_law_like" s_law_like ["_law_one", "_law_other", "_law_pairs"]
  law_numbers_right : Dn K mg "_law_numbers_right" s_law_numbers_right ["_law_hearth"]
  law : Dn K mg "law" s_law ["_law_script"]
  C : Addr
  clK : Cls K C
  nK : NoAttr K C "known"
  gC : mg "Keeping" = some (.ref C)
  K_init : Dm K C "__init__" "Keeping.__init__" s_K_init ["self"]
  K_of : Dm K C "of" "Keeping.of" s_K_of ["self", "order"]
  K_found : Dm K C "found" "Keeping.found" s_K_found ["self", "order"]
  K_polynomial : Dm K C "polynomial" "Keeping.polynomial" s_K_polynomial ["self", "one", "other"]
  K_lead : Dm K C "lead" "Keeping.lead" s_K_lead ["self", "one", "other"]
  K_tie : Dm K C "tie" "Keeping.tie" s_K_tie ["self", "one", "other"]
  mkK : Mk K C K_init.f
  t_MOST_THINGS_kept : Tok
  MOST_THINGS_kept : mg "MOST_THINGS_kept" = some (.int 5 t_MOST_THINGS_kept)
  t_MOST_THINGS_hearths : Tok
  MOST_THINGS_hearths : mg "MOST_THINGS_hearths" = some (.int 4 t_MOST_THINGS_hearths)
  len : mg "len" = none
  range : mg "range" = none
  any : mg "any" = none
  isinstance : mg "isinstance" = none
  int : mg "int" = none
  bool : mg "bool" = none
  tuple : mg "tuple" = none
  list : mg "list" = none
  enumerate : mg "enumerate" = none
  sorted : mg "sorted" = none
  dict : mg "dict" = none
  max : mg "max" = none
  abs : mg "abs" = none
/-! ### the slots -/
theorem sc_is_whole : FnScope ["thing"] ["thing"] (defScope s_is_whole) := ⟨rfl, rfl, rfl, by decide +kernel, rfl, by decide +kernel, by decide +kernel⟩
theorem sc_plain_order : FnScope ["n"] ["n"] (defScope s_plain_order) := ⟨rfl, rfl, rfl, by decide +kernel, rfl, by decide +kernel, by decide +kernel⟩
theorem sc_back : FnScope ["order", "found", "place", "thing"] ["order"] (defScope s_back) := ⟨rfl, rfl, rfl, by decide +kernel, rfl, by decide +kernel, by decide +kernel⟩
theorem sc_places_changed : FnScope ["order", "i", "j", "found"] ["order", "i", "j"] (defScope s_places_changed) := ⟨rfl, rfl, rfl, by decide +kernel, rfl, by decide +kernel, by decide +kernel⟩
theorem sc_is_exchange : FnScope ["k", "n"] ["k", "n"] (defScope s_is_exchange) := ⟨rfl, rfl, rfl, by decide +kernel, rfl, by decide +kernel, by decide +kernel⟩
theorem sc_exchanged : FnScope ["order", "k"] ["order", "k"] (defScope s_exchanged) := ⟨rfl, rfl, rfl, by decide +kernel, rfl, by decide +kernel, by decide +kernel⟩
theorem sc_all_orders : FnScope ["n", "found", "k", "longer", "one", "thing"] ["n"] (defScope s_all_orders) := ⟨rfl, rfl, rfl, by decide +kernel, rfl, by decide +kernel, by decide +kernel⟩
theorem sc_look_few : FnScope ["order"] ["order"] (defScope s_look_few) := ⟨rfl, rfl, rfl, by decide +kernel, rfl, by decide +kernel, by decide +kernel⟩
theorem sc_is_fall : FnScope ["order", "k"] ["order", "k"] (defScope s_is_fall) := ⟨rfl, rfl, rfl, by decide +kernel, rfl, by decide +kernel, by decide +kernel⟩
theorem sc_put : FnScope ["found", "order", "poly", "shift", "many", "here", "power", "number"] ["found", "order", "poly", "shift", "many"] (defScope s_put) := ⟨rfl, rfl, rfl, by decide +kernel, rfl, by decide +kernel, by decide +kernel⟩
theorem sc_without_noughts : FnScope ["found", "kept", "order", "poly", "some", "power", "number"] ["found"] (defScope s_without_noughts) := ⟨rfl, rfl, rfl, by decide +kernel, rfl, by decide +kernel, by decide +kernel⟩
theorem sc_by_plain_kept : FnScope ["some", "k", "found", "order", "poly", "shift"] ["some", "k"] (defScope s_by_plain_kept) := ⟨rfl, rfl, rfl, by decide +kernel, rfl, by decide +kernel, by decide +kernel⟩
theorem sc_K_init : FnScope ["self"] ["self"] (defScope s_K_init) := ⟨rfl, rfl, rfl, by decide +kernel, rfl, by decide +kernel, by decide +kernel⟩
theorem sc_K_of : FnScope ["self", "order"] ["self", "order"] (defScope s_K_of) := ⟨rfl, rfl, rfl, by decide +kernel, rfl, by decide +kernel, by decide +kernel⟩
theorem sc_K_found : FnScope ["self", "order", "some", "base", "made", "one", "poly", "below", "lower", "k"] ["self", "order"] (defScope s_K_found) := ⟨rfl, rfl, rfl, by decide +kernel, rfl, by decide +kernel, by decide +kernel⟩
theorem sc_K_polynomial : FnScope ["self", "one", "other"] ["self", "one", "other"] (defScope s_K_polynomial) := ⟨rfl, rfl, rfl, by decide +kernel, rfl, by decide +kernel, by decide +kernel⟩
theorem sc_K_lead : FnScope ["self", "one", "other"] ["self", "one", "other"] (defScope s_K_lead) := ⟨rfl, rfl, rfl, by decide +kernel, rfl, by decide +kernel, by decide +kernel⟩
theorem sc_K_tie : FnScope ["self", "one", "other", "found"] ["self", "one", "other"] (defScope s_K_tie) := ⟨rfl, rfl, rfl, by decide +kernel, rfl, by decide +kernel, by decide +kernel⟩
theorem sc_lead : FnScope ["one", "other"] ["one", "other"] (defScope s_lead) := ⟨rfl, rfl, rfl, by decide +kernel, rfl, by decide +kernel, by decide +kernel⟩
theorem sc_look_at : FnScope ["n"] ["n"] (defScope s_look_at) := ⟨rfl, rfl, rfl, by decide +kernel, rfl, by decide +kernel, by decide +kernel⟩
theorem sc_has_other_fall : FnScope ["one", "other", "k"] ["one", "other"] (defScope s_has_other_fall) := ⟨rfl, rfl, rfl, by decide +kernel, rfl, by decide +kernel, by decide +kernel⟩
theorem sc_led_at_once : FnScope ["keeping", "one", "orders", "found", "other"] ["keeping", "one", "orders"] (defScope s_led_at_once) := ⟨rfl, rfl, rfl, by decide +kernel, rfl, by decide +kernel, by decide +kernel⟩
theorem sc_led_over : FnScope ["ties", "one", "found", "at", "other"] ["ties", "one"] (defScope s_led_over) := ⟨rfl, rfl, rfl, by decide +kernel, rfl, by decide +kernel, by decide +kernel⟩
theorem sc_right_hearths : FnScope ["n", "keeping", "orders", "ties", "one", "led", "found", "hearth", "other"] ["n"] (defScope s_right_hearths) := ⟨rfl, rfl, rfl, by decide +kernel, rfl, by decide +kernel, by decide +kernel⟩
theorem sc_left_hearths : FnScope ["n", "hearth", "one"] ["n"] (defScope s_left_hearths) := ⟨rfl, rfl, rfl, by decide +kernel, rfl, by decide +kernel, by decide +kernel⟩
theorem sc_both_hearths : FnScope ["n", "found", "hearth", "whole", "rest", "other", "one"] ["n"] (defScope s_both_hearths) := ⟨rfl, rfl, rfl, by decide +kernel, rfl, by decide +kernel, by decide +kernel⟩
theorem sc_place_for : FnScope ["row", "letter", "one"] ["row", "letter"] (defScope s_place_for) := ⟨rfl, rfl, rfl, by decide +kernel, rfl, by decide +kernel, by decide +kernel⟩
theorem sc_put_in : FnScope ["table", "letter", "found", "left", "row", "made", "at"] ["table", "letter"] (defScope s_put_in) := ⟨rfl, rfl, rfl, by decide +kernel, rfl, by decide +kernel, by decide +kernel⟩
theorem sc_shape : FnScope ["table", "row"] ["table"] (defScope s_shape) := ⟨rfl, rfl, rfl, by decide +kernel, rfl, by decide +kernel, by decide +kernel⟩
theorem sc_new_row : FnScope ["less", "more", "at", "row"] ["less", "more"] (defScope s_new_row) := ⟨rfl, rfl, rfl, by decide +kernel, rfl, by decide +kernel, by decide +kernel⟩
theorem sc_tables : FnScope ["row", "first", "second", "number", "letter", "more", "at"] ["row"] (defScope s_tables) := ⟨rfl, rfl, rfl, by decide +kernel, rfl, by decide +kernel, by decide +kernel⟩
theorem sc_number_at : FnScope ["keeping", "k", "one", "other"] ["keeping", "k", "one", "other"] (defScope s_number_at) := ⟨rfl, rfl, rfl, by decide +kernel, rfl, by decide +kernel, by decide +kernel⟩
theorem sc_number_tables : FnScope ["hearth", "keeping", "found", "k", "one", "other"] ["hearth"] (defScope s_number_tables) := ⟨rfl, rfl, rfl, by decide +kernel, rfl, by decide +kernel, by decide +kernel⟩
theorem sc_first_and_second : FnScope ["order"] ["order"] (defScope s_first_and_second) := ⟨rfl, rfl, rfl, by decide +kernel, rfl, by decide +kernel, by decide +kernel⟩
theorem sc_matched : FnScope ["one", "other", "shapes", "seconds", "hearth", "order"] ["one", "other"] (defScope s_matched) := ⟨rfl, rfl, rfl, by decide +kernel, rfl, by decide +kernel, by decide +kernel⟩
theorem sc_law_cell : FnScope ["_law_script", "_law_k"] ["_law_script", "_law_k"] (defScope s_law_cell) := ⟨rfl, rfl, rfl, by decide +kernel, rfl, by decide +kernel, by decide +kernel⟩
theorem sc_law_bag : FnScope ["_law_cell_here", "_law_place", "_law_far"] ["_law_cell_here", "_law_place"] (defScope s_law_bag) := ⟨rfl, rfl, rfl, by decide +kernel, rfl, by decide +kernel, by decide +kernel⟩
theorem sc_law_mixed : FnScope ["_law_bag_here"] ["_law_bag_here"] (defScope s_law_mixed) := ⟨rfl, rfl, rfl, by decide +kernel, rfl, by decide +kernel, by decide +kernel⟩
theorem sc_law_digit : FnScope ["_law_bag_here", "_law_many", "_law_found", "_law_k"] ["_law_bag_here", "_law_many"] (defScope s_law_digit) := ⟨rfl, rfl, rfl, by decide +kernel, rfl, by decide +kernel, by decide +kernel⟩
theorem sc_law_order : FnScope ["_law_bag_here", "_law_n", "_law_left", "_law_found", "_law_k"] ["_law_bag_here", "_law_n"] (defScope s_law_order) := ⟨rfl, rfl, rfl, by decide +kernel, rfl, by decide +kernel, by decide +kernel⟩
theorem sc_law_one_hearth : FnScope ["_law_found", "_law_one", "_law_other", "_law_hearth"] ["_law_found", "_law_one", "_law_other"] (defScope s_law_one_hearth) := ⟨rfl, rfl, rfl, by decide +kernel, rfl, by decide +kernel, by decide +kernel⟩
theorem sc_law_like : FnScope ["_law_one", "_law_other", "_law_pairs", "_law_spots", "_law_mine", "_law_yours", "_law_pair", "_law_table", "_law_i", "_law_j"] ["_law_one", "_law_other", "_law_pairs"] (defScope s_law_like) := ⟨rfl, rfl, rfl, by decide +kernel, rfl, by decide +kernel, by decide +kernel⟩
theorem sc_law_numbers_right : FnScope ["_law_hearth", "_law_k", "_law_table", "_law_i", "_law_one", "_law_j", "_law_other", "_law_due"] ["_law_hearth"] (defScope s_law_numbers_right) := ⟨rfl, rfl, rfl, by decide +kernel, rfl, by decide +kernel, by decide +kernel⟩
theorem sc_law : FnScope ["_law_script", "_law_bag_here", "_law_n", "_law_one", "_law_other", "_law_mine", "_law_yours", "_law_alike", "_law_rights", "_law_answers", "_law_hearth", "_law_far", "_law_some"] ["_law_script"] (defScope s_law) := ⟨rfl, rfl, rfl, by decide +kernel, rfl, by decide +kernel, by decide +kernel⟩
end U
namespace U
open PySem L2 Evl
/-! ### how the mirrors' data are written -/
abbrev dO (o : List Int) : PyData := .tuple (o.map .int)
abbrev dL {α : Type} (f : α → PyData) (xs : List α) : PyData := .list (xs.map f)
abbrev dI (i : Int) : PyData := .int i
abbrev dOs (os : List (List Int)) : PyData := dL dO os
abbrev dOss (os : List (List (List Int))) : PyData := dL dOs os
abbrev dLs (ns : List Int) : PyData := dL dI ns
abbrev dLL (ns : List (List Int)) : PyData := dL dLs ns
abbrev dLLL (ns : List (List (List Int))) : PyData := dL dLL ns
/-- what is a datum of depth n, told apart -/
structure Enc {α : Type} [DecidableEq α] (f : α → PyData) (n : Nat) : Prop where
  lay : ∀ x, (f x).canLay0 = true
  dep : ∀ x, (f x).depth ≤ n
  eqv : ∀ x y, PyData.eqv (f x) (f y) = decide (x = y)
section
variable {α : Type} [DecidableEq α] {f : α → PyData} {n : Nat}
theorem Enc.layAll (h : Enc f n) : ∀ xs : List α, PyData.canLayAll0 (xs.map f) = true
  | [] => by simp [PyData.canLayAll0]
  | x :: xs => by simp [PyData.canLayAll0, h.lay x, h.layAll xs]
theorem Enc.depAll (h : Enc f n) : ∀ xs : List α, PyData.depthAll (xs.map f) ≤ n
  | [] => by simp [PyData.depthAll]
  | x :: xs => by
    have h1 := h.dep x
    have h2 := h.depAll xs
    simp only [List.map_cons, PyData.depthAll]
    omega
theorem Enc.eqvAll (h : Enc f n) : ∀ xs ys : List α, PyData.eqvAll (xs.map f) (ys.map f) = decide (xs = ys)
  | [], [] => by simp only [List.map_nil, PyData.eqvAll, decide_true]
  | [], _ :: _ => by simp [PyData.eqvAll]
  | _ :: _, [] => by simp [PyData.eqvAll]
  | x :: xs, y :: ys => by
    rw [List.map_cons, List.map_cons, PyData.eqvAll, h.eqv x y, h.eqvAll xs ys, ← Bool.decide_and]
    exact decide_eq_decide.mpr (by rw [List.cons.injEq])
theorem Enc.list (h : Enc f n) : Enc (dL f) (n + 1) where
  lay xs := by
    simp only [dL, PyData.canLay0]
    exact h.layAll xs
  dep xs := by
    simp only [dL, PyData.depth]
    exact Nat.succ_le_succ (h.depAll xs)
  eqv xs ys := by
    simp only [dL, PyData.eqv]
    exact h.eqvAll xs ys
theorem Enc.shaped (h : Enc f n) (hn : n ≤ 64) (x : α) : SeqAt.shaped (f x) = true := by
  show ((f x).canLay0 && decide ((f x).depth ≤ 64)) = true
  rw [Bool.and_eq_true]
  exact ⟨h.lay x, decide_eq_true (Nat.le_trans (h.dep x) hn)⟩
end
theorem encI : Enc dI 0 where
  lay x := by simp [dI, PyData.canLay0]
  dep x := by simp [dI, PyData.depth]
  eqv x y := by
    simp only [dI, PyData.eqv]
    exact PySem.W.beq_decide x y
theorem encO : Enc dO 1 where
  lay x := by
    simp only [dO, PyData.canLay0]
    exact encI.layAll x
  dep x := by
    simp only [dO, PyData.depth]
    exact Nat.succ_le_succ (encI.depAll x)
  eqv x y := by
    simp only [dO, PyData.eqv]
    exact encI.eqvAll x y
theorem encB : Enc PyData.bool 0 where
  lay x := by simp [PyData.canLay0]
  dep x := by simp [PyData.depth]
  eqv x y := by
    simp only [PyData.eqv]
    exact PySem.W.beq_decide x y
theorem encOs : Enc dOs 2 := encO.list
theorem encOss : Enc dOss 3 := encOs.list
theorem encLs : Enc dLs 1 := encI.list
theorem encLL : Enc dLL 2 := encLs.list
theorem encLLL : Enc dLLL 3 := encLL.list
section
variable {α : Type} {f : α → PyData}
theorem at_map {xs : List α} {i : Nat} {d : PyData} (h : (xs.map f)[i]? = some d) : ∃ x, xs[i]? = some x ∧ d = f x := by
  rw [List.getElem?_map] at h
  obtain ⟨x, hx, e⟩ := Option.map_eq_some_iff.mp h
  exact ⟨x, hx, e.symm⟩
theorem map_at {xs : List α} {i : Nat} {x : α} (h : xs[i]? = some x) : (xs.map f)[i]? = some (f x) := by
  rw [List.getElem?_map, h]
  rfl
theorem any_enc [DecidableEq α] {n : Nat} (h : Enc f n) (xs : List α) (x : α) : ((xs.map f).any fun z => PyData.eqv z (f x)) = xs.any fun z => decide (z = x) := by
  rw [List.any_map]
  congr 1
  funext z
  exact h.eqv z x
end
end U
namespace U
open PySem L2 Evl
/-! ### what is told of slots is forgotten -/
inductive Wk : Rho → Rho → Prop
  | nil : Wk [] []
  | keep {a : Sl} {r s : Rho} : Wk r s → Wk (a :: r) (a :: s)
  | drop {a : Sl} {r s : Rho} : Wk r s → Wk (a :: r) (.any :: s)
theorem Wk.get : ∀ {ρ ρ' : Rho}, Wk ρ ρ' → ρ.length = ρ'.length ∧ ∀ (i : Nat) (sl : Sl), ρ'[i]? = some sl → sl = .any ∨ ρ[i]? = some sl
  | _, _, .nil => ⟨rfl, fun i sl h => by simp at h⟩
  | _, _, .keep w => ⟨by rw [List.length_cons, List.length_cons, w.get.1], fun i sl h => by
      cases i with
      | zero => exact Or.inr h
      | succ i => exact w.get.2 i sl h⟩
  | _, _, .drop w => ⟨by rw [List.length_cons, List.length_cons, w.get.1], fun i sl h => by
      cases i with
      | zero => exact Or.inl (Option.some.inj h).symm
      | succ i => exact w.get.2 i sl h⟩
theorem Slots.wk {H0 G H : Hp} {ρ ρ' : Rho} {σ : L2.St} (S : Slots H0 ρ σ G H) (w : Wk ρ ρ') : Slots H0 ρ' σ G H := by
  obtain ⟨hl, hw⟩ := w.get
  refine ⟨by rw [S.len, hl], fun i sl h => ?_, fun i j p ds es h1 h2 h3 h4 => ?_⟩
  · rcases hw i sl h with rfl | h'
    · have hi : i < σ.length := by
        rw [S.len, hl]
        exact (List.getElem?_eq_some_iff.mp h).1
      exact ⟨σ[i], List.getElem?_eq_getElem hi, True.intro⟩
    · exact S.ok i sl h'
  · rcases hw i _ h1 with e | h1
    · cases e
    · rcases hw j _ h2 with e | h2
      · cases e
      · exact S.dist i j p ds es h1 h2 h3 h4
section
variable {K : PySem.W.Frag} {G0 H0 : Hp} {ρ ρ' ρ2 : Rho} {ta tb te tc ti tj : TE} {tt : TT} {d e : PyData} {ds es : List PyData} {i j k : Int} {o : Out} {t u : TS} {b : Bool}
theorem does_wk (h : Does G0 H0 t ρ (.nx ρ')) (w : Wk ρ' ρ2) : Does G0 H0 t ρ (.nx ρ2) := fun D σ G H x S q => h D σ G H x S fun σ' G' H' x' e' S' => q σ' G' H' x' e' (S'.wk w)
theorem does_wk0 (w : Wk ρ ρ2) (h : Does G0 H0 t ρ2 o) : Does G0 H0 t ρ o := fun D σ G H x S q => h D σ G H x (S.wk w) q
theorem Does.is {o2 : Out} (h : Does G0 H0 t ρ o) (e : o = o2) : Does G0 H0 t ρ o2 := e ▸ h
theorem Does.nx {ρ2 : Rho} (h : Does G0 H0 t ρ (.nx ρ')) (e : ρ' = ρ2) : Does G0 H0 t ρ (.nx ρ2) := e ▸ h
/-- a test that is not passed; one that is -/
theorem does_ifF (h : TV H0 tt ρ false) (k : Does G0 H0 u ρ o) : Does G0 H0 (tIfS tt t u) ρ o := does_if h (fun z => nomatch z) fun _ => k
theorem does_ifT (h : TV H0 tt ρ true) (k : Does G0 H0 t ρ o) : Does G0 H0 (tIfS tt t u) ρ o := does_if h (fun _ => k) fun z => nomatch z
/-- isinstance of a whole number -/
theorem dv_isi {n : String} (ha : DVr H0 ta ρ (.int i)) (hk : kitB "int" n = some b) : DV H0 (tCB (rIsi K) (tCons ta (tCons (tC (.ty n)) tNil))) ρ (.bool b) := fun σ G H hx S Q q => ha σ G H hx S _ fun v H1 e1 r =>
  ⟨.int i, .ty n, .type "int", .type n, b, by rw [r.int_inv], .ty n, .base (.int i), kit_ty hk, q _ G H1 (Ext.hs hx e1) (.bl b)⟩
/-- i <= j < k -/
theorem dv_chain {p q : Int → Int → Bool} (ha : DVr H0 ta ρ (.int i)) (hb : DVr H0 tb ρ (.int j)) (hc : DVr H0 tc ρ (.int k)) : DV H0 (tChain (rI0 fun i j => .bl (p i j)) (rI0 fun i j => .bl (q i j)) ta tb tc) ρ (.bool (p i j && q j k)) := fun σ G H hx S Q qq =>
  ha σ G H hx S _ fun x H1 e1 r1 => hb σ G H1 (Ex.trans hx e1) (S.ext (Ext.hs hx e1)) _ fun y H2 e2 r2 => by
    have e12 := Ex.trans e1 e2
    refine ⟨i, j, r1.int_inv, r2.int_inv, p i j, rfl, ?_⟩
    cases hp : p i j with
    | false => exact qq _ G H2 (Ext.hs hx e12) (by rw [hp]; exact .bl _)
    | true =>
      show tc σ H2 _
      exact hc σ G H2 (Ex.trans hx e12) (S.ext (Ext.hs hx e12)) _ fun z H3 e3 r3 => ⟨j, k, r2.int_inv, r3.int_inv, qq _ G H3 (Ext.hs hx (Ex.trans e12 e3)) (by rw [hp]; exact .bl _)⟩
/-- xs[m], xs[n] = (d, e) -/
theorem does_set2 {l m n : Nat} (h : ρ[l]? = some (.own ds)) (he : DV H0 te ρ (.tuple [d, e])) (hi : DVr H0 ti ρ (.int i)) (em : i = (m : Int)) (hm : m < ds.length) (hj : DVr H0 tj ρ (.int j)) (en : j = (n : Int)) (hn : n < ds.length)
    (hi' : ∀ ds', DVr H0 tj (ρ.set l (.own ds')) (.int j)) :
    Does G0 H0 (tAsg te (gTup K 2 (gCons (gSub (tVar l) ti rSetL) (gCons (gSub (tVar l) tj rSetL) gNil)))) ρ (.nx (ρ.set l (.own ((ds.set m d).set n e)))) := fun D σ G H x S k => by
  refine he σ G H x.gh S _ fun v G1 H1 x1 r1 => ?_
  obtain ⟨a, xs, rfl, ha, ra⟩ := r1.tup_inv
  cases ra with
  | @cons v1 _ _ _ rd ra =>
    cases ra with
    | @cons v2 _ _ _ re ra =>
      cases ra
      refine ⟨a, _, rfl, SqT.of (x1.gh _ _ ha), rfl, _, _, rfl, ?_⟩
      have S1 := S.ext x1
      obtain ⟨p, vs, hs, hp, r, gp, h0⟩ := S1.own_at h
      refine ⟨_, hs, hi σ G1 H1 x1.gh S1 _ fun y H2 e2 r2 => ?_⟩
      have x2 := Ext.hs x1.gh e2
      refine ⟨p, vs, i, m, rfl, r2.int_inv, e2 _ _ hp, by rw [em]; exact ixN_nat (by rw [r.len]; exact hm), _, _, rfl, ?_⟩
      have S3 := (S1.ext x2).change h hs (r.set m rd)
      have x3 := ((x.trans x1).trans x2).own (o := .lst (vs.set m v1)) h0 gp
      have hl : l < ρ.length := (List.getElem?_eq_some_iff.mp h).1
      have h3 : (ρ.set l (.own (ds.set m d)))[l]? = some (.own (ds.set m d)) := List.getElem?_set_self hl
      refine ⟨_, hs, hi' _ σ G1 _ x3.gh S3 _ fun y H4 e4 r4 => ?_⟩
      have x4 := Ext.hs x3.gh e4
      refine ⟨p, vs.set m v1, j, n, rfl, r4.int_inv, e4 _ _ upd_same, by rw [en]; exact ixN_nat (by rw [List.length_set, r.len]; exact hn), rfl, ?_⟩
      have S5 := (S3.ext x4).change h3 hs ((r.set m rd).set n re)
      rw [List.set_set] at S5
      exact k σ G1 _ ((x3.trans x4).own h0 gp) x1.g S5
end
end U
namespace U
abbrev RF {α : Type} (f : α → List PySem.PyData) (pre : α → Prop) (g : α → PySem.PyData) : List PySem.PyData → PySem.PyData → Prop := fun ds d => ∃ x, ds = f x ∧ pre x ∧ d = g x
theorem rf_len {α : Type} {f : α → List PySem.PyData} {pre : α → Prop} {g : α → PySem.PyData} {n : Nat} (h : ∀ x, (f x).length = n) : ∀ ds d, RF f pre g ds d → ds.length = n := fun ds d ⟨x, e, _⟩ => by rw [e, h x]
end U
namespace U
open PySem L2 Evl
/-! ### the layer's rules, the written part named by a letter (within a comprehension's block) -/
section
variable {X : Cx} {K : PySem.W.Frag}
theorem k_len (h : X.K = K) : CallR X (.builtin "len") (fun xs H Q => ∃ p ys, xs = [.ref p] ∧ (SqL K H p ys ∨ SqT K H p ys) ∧ Q (.int (ys.length : Nat)) H) := by subst h; exact call_len_seq
theorem k_any (hc : X.calm = true) (h : X.K = K) : CallR X (.builtin "any") (rAny K) := by subst h; exact cr_any hc
theorem k_isi (h : X.K = K) : CallR X (.builtin "isinstance") (rIsi K) := by subst h; exact call_isi
theorem k_list (h : X.K = K) : CallR X (.type "list") (fun xs H Q => ∃ p ys, xs = [.ref p] ∧ (SqL K H p ys ∨ SqT K H p ys) ∧ ∀ l, H l = none → Q (.ref l) (upd H l (.lst ys))) := by subst h; exact call_list_of
theorem k_tuple (h : X.K = K) : CallR X (.type "tuple") (fun xs H Q => ∃ p ys, xs = [.ref p] ∧ ((SqL K H p ys ∧ ∀ l, H l = none → Q (.ref l) (upd H l (.tup ys))) ∨ (SqT K H p ys ∧ Q (.ref p) H))) := by subst h; exact call_tuple_of
theorem k_ixL (h : X.K = K) : IxR X (rIxL K) := by subst h; exact ix_list
theorem k_ixT (h : X.K = K) : IxR X (rIxT K) := by subst h; exact ix_tup
theorem k_slL (h : X.K = K) : SlR X (rSlL K) := by subst h; exact sl_list
theorem k_eqD (h : X.K = K) (hu : X.A.units + 64 < cLine) : OpR X (compareOp .Eq) (rEqD K) := by subst h; exact op_eqD hu
theorem k_neD (h : X.K = K) (hu : X.A.units + 64 < cLine) : OpR X (compareOp .NotEq) (rNeD K) := by subst h; exact op_neD hu
theorem k_inD (h : X.K = K) (hu : X.A.units + 65 < cLine) : OpR X (compareOp .In) (rInD K) := by subst h; exact op_inD hu
theorem k_niD (h : X.K = K) (hu : X.A.units + 65 < cLine) : OpR X (compareOp .NotIn) (rNotInD K) := by subst h; exact op_notInD hu
theorem k_niT (h : X.K = K) : OpR X (compareOp .NotIn) (rIn K true) := by subst h; exact op_notIn_seq
theorem k_catT (h : X.K = K) : OpR X (binaryOp .Add) (rCatA K) := by subst h; exact op_catA
theorem k_index (h : X.K = K) (hu : X.A.units + 65 < cLine) : MtR X "list.index" (rIndexD K) := by subst h; exact mt_indexD hu
theorem kpi_list {tg l : Expr} {tl : TE} (h : X.K = K) (hl : PE X l tl) : PI X tg l (iList K tl) := by subst h; exact pi_list hl
theorem kpi_tup {tg l : Expr} {tl : TE} (h : X.K = K) (hl : PE X l tl) : PI X tg l (iTup K tl) := by subst h; exact pi_tup hl
theorem kpe_bm {T name id : String} {r : V → List V → Hp → VK → Prop} {o e : Expr} {es : List Expr} {to : TE} {t : TA} {apos cpos : Pos} (h : X.K = K) (pe : PE X (.Call (.Attribute o (Str.ofString name) apos) (e :: es) [] cpos) (tBM X.K T r to t)) : PE X (.Call (.Attribute o (Str.ofString name) apos) (e :: es) [] cpos) (tBM K T r to t) := by subst h; exact pe
end
end U
namespace U
open PySem L2 Evl
section
variable {K : PySem.W.Frag} {G0 H0 : Hp} {ρ : Rho} {ta te tl : TE} {d e : PyData} {ds : List PyData} {j : Nat} {o : Out}
/-- a loop that is left by a return in its r-th turn -/
theorem does_forE_rt {tb : TS} {ta : TA} {m n r : Nat} (hl : AV H0 ta ρ [.list ds]) (ρs : Nat → Rho) (h0 : ρs 0 = ρ) (hr : r < ds.length) (hs : ∀ i d, i < r → ds[i]? = some d → Does G0 H0 tb (((ρs i).set m (.imm (.int (i : Nat)))).set n (.imm d)) (.nx (ρs (i + 1))))
    (hd : ∀ d, ds[r]? = some d → Does G0 H0 tb (((ρs r).set m (.imm (.int (r : Nat)))).set n (.imm d)) (.rt e)) :
    Does G0 H0 (tFor (iEnum K ta) (gTup K 2 (gCons (gName m) (gCons (gName n) gNil))) tb) ρ (.rt e) := fun D σ G H x S k => hl σ G H x.gh S _ fun v G1 H1 x1 r1 => by
  cases r1 with
  | cons rr0 rr =>
    cases rr
    obtain ⟨a, xs, rfl, h, ra⟩ := rr0.lst_inv
    refine ⟨a, xs, rfl, SqL.of (x1.gh _ _ h), for_it (walk_enum (K := K) (a := a) (xs := xs)) (fun i σ' H' => i ≤ r ∧ ∃ G', Ext G0 H0 G' H' ∧ Ex G1 G' ∧ Slots H0 (ρs i) σ' G' H') ⟨Nat.zero_le _, G1, x.trans x1, Ex.refl _, by rw [h0]; exact S.ext x1⟩
      (fun i σ' H' _ ⟨_, G', x', e', _⟩ => SqL.of (x'.gh _ _ (e' _ _ h))) (fun i v σ' H' H2 hi ⟨hir, G', x', e', S'⟩ y => ?_) fun σ' H' ⟨hir, _⟩ => ?_⟩
    · obtain ⟨T, y1, y2, rfl, hT, rfl, f1, f2⟩ := y
      cases f1
      obtain ⟨d, hd', rd⟩ := ra.ofV f2
      have xT := Ext.hs x'.gh (Ex.new (o := .tup [.int (i : Nat), y2]) hT)
      refine ⟨T, [.int (i : Nat), y2], rfl, SqT.of upd_same, rfl, _, _, rfl, _, _, rfl, rfl, ?_⟩
      have S2 := ((S'.ext xT).setImm (i := m) (.int (i : Nat))).setImm (i := n) (rd.mono e')
      rcases Nat.lt_or_ge i r with hlt | hge
      · exact hs i d hlt hd' _ _ G' _ (x'.trans xT) S2 fun σ2 G2 H2 x2 e2 S2 => ⟨hlt, G2, x2, Ex.trans e' e2, S2⟩
      · obtain rfl : i = r := Nat.le_antisymm hir hge
        exact hd d hd' _ _ G' _ (x'.trans xT) S2 fun v G2 H2 x2 e2 r2 => k v G2 H2 x2 (Ex.trans x1.g (Ex.trans e' e2)) r2
    · exfalso
      have := ra.len
      omega
end
end U
namespace U
open PySem L2 Evl
theorem dvr_succ {H0 : Hp} {ρ : Rho} {te : TE} {n : Nat} (h : DVr H0 te ρ (.int (n : Int))) : DVr H0 (tOp (rI0 fun i j => .int (i + j)) te (tC (.int 1))) ρ (.int ((n + 1 : Nat) : Int)) := (dv_ii (f := fun i j => i + j) h dv_int.r).r
end U
namespace U
open PySem L2 Evl
/-- many objects of one's own stand still from now on -/
def stillL (L : List Addr) (G H : Hp) : Hp := fun a => if a ∈ L then H a else G a
theorem stillL_in {L : List Addr} {G H : Hp} {a : Addr} (h : a ∈ L) : stillL L G H a = H a := by unfold stillL; rw [if_pos h]
theorem stillL_ex {L : List Addr} {G H : Hp} (h : ∀ a, a ∈ L → G a = none) : Ex G (stillL L G H) := fun a o e => by
  unfold stillL
  rw [if_neg fun z => by rw [h a z] at e; cases e]
  exact e
theorem Ext.stillL {G0 H0 G H : Hp} {L : List Addr} (x : Ext G0 H0 G H) (h0 : ∀ a, a ∈ L → H0 a = none) (hg : ∀ a, a ∈ L → G a = none) : Ext G0 H0 (stillL L G H) H := by
  refine ⟨x.h, Ex.trans x.g (stillL_ex hg), fun a o e => ?_, fun a h1 h2 => ?_⟩
  · unfold U.stillL at e
    split at e
    · exact e
    · exact x.gh a o e
  · unfold U.stillL
    rw [if_neg fun z => h2 (h0 a z)]
    exact x.fr a h1 h2
/-- a list of lists of whole numbers, all of one's own -/
def Own2 (H0 G H : Hp) (p : Addr) (dss : List (List Int)) : Prop := ∃ qs : List Addr, H p = some (.lst (qs.map V.ref)) ∧ qs.length = dss.length ∧
  (∀ (k : Nat) (q : Addr) (ns : List Int), qs[k]? = some q → dss[k]? = some ns → H q = some (.lst (ns.map V.int)) ∧ G q = none ∧ H0 q = none) ∧ (p :: qs).Nodup ∧ G p = none ∧ H0 p = none
theorem Own2.ext {H0 G H G' H' : Hp} {p : Addr} {dss : List (List Int)} (o : Own2 H0 G H p dss) (x : Ext G H G' H') : Own2 H0 G' H' p dss := by
  obtain ⟨qs, hp, hl, hq, nd, gp, h0⟩ := o
  refine ⟨qs, x.h _ _ hp, hl, fun k q ns h1 h2 => ?_, nd, x.fr p gp (ne_none hp), h0⟩
  obtain ⟨a, b, c⟩ := hq k q ns h1 h2
  exact ⟨x.h _ _ a, x.fr q b (ne_none a), c⟩
theorem nodup_neq {α : Type} {l : List α} (hN : l.Nodup) {i j : Nat} {x y : α} (a : l[i]? = some x) (b : l[j]? = some y) (h : i ≠ j) : x ≠ y := fun e => h (nd_ix hN a (e ▸ b))
/-- a new empty list at its end -/
theorem Own2.snoc {H0 G H : Hp} {p q : Addr} {dss : List (List Int)} (o : Own2 H0 G H p dss) (gH : Ex G H) (hH : Ex H0 H) (hq : H q = none) :
    ∃ qs : List Addr, H p = some (.lst (qs.map V.ref)) ∧ qs.length = dss.length ∧ Own2 H0 G (upd (upd H q (.lst [])) p (.lst (qs.map V.ref ++ [V.ref q]))) p (dss ++ [[]]) := by
  obtain ⟨qs, hp, hl, hqs, nd, gp, h0⟩ := o
  have npq : p ≠ q := ne_of_none hp hq
  have nq : q ∉ qs := fun m => by
    obtain ⟨k, hk, e⟩ := List.mem_iff_getElem.mp m
    have h1 : qs[k]? = some q := by rw [List.getElem?_eq_getElem hk, e]
    have h2 : dss[k]? = some dss[k] := List.getElem?_eq_getElem (by omega)
    have h3 := (hqs k q _ h1 h2).1
    rw [hq] at h3
    cases h3
  refine ⟨qs, hp, hl, qs ++ [q], ?_, by rw [List.length_append, List.length_append, hl]; rfl, fun k r ns h1 h2 => ?_, ?_, gp, h0⟩
  · rw [upd_same, List.map_append]
    rfl
  · obtain ⟨ndp, ndq⟩ := List.nodup_cons.mp nd
    by_cases hk : k < qs.length
    · rw [List.getElem?_append_left hk] at h1
      rw [List.getElem?_append_left (by omega)] at h2
      obtain ⟨a, b, c⟩ := hqs k r ns h1 h2
      have m : r ∈ qs := List.mem_of_getElem? h1
      refine ⟨?_, b, c⟩
      rw [upd_ne (show r ≠ p from fun z => ndp (by rw [← z]; exact m)), upd_ne (show r ≠ q from fun z => nq (by rw [← z]; exact m))]
      exact a
    · have e : k = qs.length := by
        have z := (List.getElem?_eq_some_iff.mp h1).1
        rw [List.length_append, List.length_singleton] at z
        omega
      subst e
      rw [List.getElem?_append_right (Nat.le_refl _), Nat.sub_self] at h1
      rw [List.getElem?_append_right (by omega), show qs.length - dss.length = 0 by omega] at h2
      cases h1
      cases h2
      refine ⟨?_, fresh_back gH hq, fresh_back hH hq⟩
      rw [upd_ne (Ne.symm npq), upd_same]
      rfl
  · obtain ⟨ndp, ndq⟩ := List.nodup_cons.mp nd
    refine List.nodup_cons.mpr ⟨fun m => ?_, nd_snoc ndq nq⟩
    rcases List.mem_append.mp m with z | z
    · exact ndp z
    · exact npq (List.mem_singleton.mp z)
/-- an item's list is changed -/
theorem Own2.set {H0 G H : Hp} {p : Addr} {dss : List (List Int)} {k : Nat} {ns ms : List Int} (o : Own2 H0 G H p dss) (hk : dss[k]? = some ns) :
    ∃ (qs : List Addr) (q : Addr), H p = some (.lst (qs.map V.ref)) ∧ qs[k]? = some q ∧ H q = some (.lst (ns.map V.int)) ∧ G q = none ∧ H0 q = none ∧ Own2 H0 G (upd H q (.lst (ms.map V.int))) p (dss.set k ms) := by
  obtain ⟨qs, hp, hl, hqs, nd, gp, h0⟩ := o
  have hkl := (List.getElem?_eq_some_iff.mp hk).1
  have h1 : qs[k]? = some qs[k] := List.getElem?_eq_getElem (by omega)
  obtain ⟨a, b, c⟩ := hqs k _ ns h1 hk
  obtain ⟨ndp, ndq⟩ := List.nodup_cons.mp nd
  refine ⟨qs, _, hp, h1, a, b, c, qs, ?_, by rw [List.length_set, hl], fun j r ns' h2 h3 => ?_, nd, gp, h0⟩
  · rw [upd_ne (show p ≠ qs[k] from fun z => ndp (by rw [z]; exact List.mem_of_getElem? h1))]
    exact hp
  · by_cases hj : k = j
    · subst hj
      rw [h1] at h2
      cases h2
      rw [List.getElem?_set_self hkl] at h3
      cases h3
      exact ⟨upd_same, b, c⟩
    · rw [List.getElem?_set_ne hj] at h3
      obtain ⟨a', b', c'⟩ := hqs j r ns' h2 h3
      refine ⟨?_, b', c'⟩
      rw [upd_ne (nodup_neq ndq h2 h1 (Ne.symm hj))]
      exact a'
theorem Own2.lst {H0 G H : Hp} {p : Addr} {dss : List (List Int)} (o : Own2 H0 G H p dss) :
    ∃ L : List Addr, p ∈ L ∧ (∀ a, a ∈ L → H0 a = none) ∧ (∀ a, a ∈ L → G a = none) ∧ (∀ a, a ∈ L → H a ≠ none) ∧ ∀ G' : Hp, (∀ a, a ∈ L → G' a = H a) → Rp G' (.ref p) (.list (dss.map fun ns => .list (ns.map .int))) := by
  obtain ⟨qs, hp, hl, hqs, nd, gp, h0⟩ := o
  have all : ∀ a, a ∈ qs → ∃ ns : List Int, H a = some (.lst (ns.map V.int)) ∧ G a = none ∧ H0 a = none := fun a m => by
    obtain ⟨k, hk, e⟩ := List.mem_iff_getElem.mp m
    have h1 : qs[k]? = some a := by rw [List.getElem?_eq_getElem hk, e]
    exact ⟨_, hqs k a _ h1 (List.getElem?_eq_getElem (by omega))⟩
  have mm : ∀ a, a ∈ p :: qs → H0 a = none ∧ G a = none ∧ H a ≠ none := fun a m => by
    rcases List.mem_cons.mp m with e | m
    · subst e
      exact ⟨h0, gp, ne_none hp⟩
    · obtain ⟨ns, h1, h2, h3⟩ := all a m
      exact ⟨h3, h2, ne_none h1⟩
  refine ⟨p :: qs, List.mem_cons_self, fun a m => (mm a m).1, fun a m => (mm a m).2.1, fun a m => (mm a m).2.2, fun G' hG => ?_⟩
  refine .lst ((hG p List.mem_cons_self).trans hp) ?_
  have hG' : ∀ a, a ∈ qs → G' a = H a := fun a m => hG a (List.mem_cons.mpr (Or.inr m))
  clear mm all nd hG hp
  induction qs generalizing dss with
  | nil =>
    cases dss with
    | nil => exact .nil
    | cons _ _ => simp at hl
  | cons q qs ih =>
    cases dss with
    | nil => simp at hl
    | cons ns dss =>
      refine .cons (.lst ((hG' q List.mem_cons_self).trans (hqs 0 q ns rfl rfl).1) (RpAll.ofInts ns)) (ih (by simpa using hl) (fun k r ms h1 h2 => hqs (k + 1) r ms h1 h2) fun a m => hG' a (List.mem_cons.mpr (Or.inr m)))
end U
namespace U
open PySem L2 Evl
def noOwn : Rho → Bool
  | [] => true
  | .own _ :: _ => false
  | _ :: r => noOwn r
theorem noOwn_at : ∀ {ρ : Rho}, noOwn ρ = true → ∀ (i : Nat) (ds : List PyData), ρ[i]? ≠ some (.own ds)
  | [], _, i, ds => by simp
  | .own _ :: _, h, _, _ => nomatch h
  | .imm _ :: r, h, 0, ds => fun e => by cases e
  | .any :: r, h, 0, ds => fun e => by cases e
  | .imm _ :: r, h, i + 1, ds => noOwn_at (ρ := r) h i ds
  | .any :: r, h, i + 1, ds => noOwn_at (ρ := r) h i ds
theorem Slots.noOwn {H0 G H H' : Hp} {ρ : Rho} {σ : L2.St} (S : Slots H0 ρ σ G H) (h : noOwn ρ = true) : Slots H0 ρ σ G H' := by
  refine ⟨S.len, fun i sl e => ?_, fun i j p ds es h1 => absurd h1 (noOwn_at h i ds)⟩
  obtain ⟨s, hs, k⟩ := S.ok i sl e
  refine ⟨s, hs, ?_⟩
  cases sl with
  | imm d => exact k
  | any => exact True.intro
  | own ds => exact absurd e (noOwn_at h i ds)
end U
namespace U
open PySem L2 Evl
section
variable {H0 G H : Hp} {ρ : Rho} {σ : L2.St} {D : Ends} {te : TE} {u : TS} {d : PyData} {ds : List PyData} {i : Nat}
theorem q_dv (h : DV H0 te ρ d) (e : Ex G H) (S : Slots H0 ρ σ G H) (k : ∀ v G' H', Ext G H G' H' → Rp G' v d → u D (σ.set i (some v)) H') : tSeq (tAsg te (gName i)) u D σ H := h σ G H e S _ k
theorem s_dv (h : DV H0 te ρ d) (e : Ex G H) (S : Slots H0 ρ σ G H) (k : ∀ v G' H', Ext G H G' H' → Rp G' v d → D.nx (σ.set i (some v)) H') : tAsg te (gName i) D σ H := h σ G H e S _ k
theorem q_nl (h : NL H0 te ρ ds) (e : Ex G H) (S : Slots H0 ρ σ G H) (k : ∀ p vs G' H', Ext G H G' H' → H p = none → G' p = none → H' p = some (.lst vs) → RpAll G' vs ds → u D (σ.set i (some (.ref p))) H') : tSeq (tAsg te (gName i)) u D σ H := h σ G H e S _ k
end
end U
namespace U
open PySem L2 Evl
section
variable {K : PySem.W.Frag} {G0 H0 : Hp} {ρ ρ' : Rho} {ta tb te tl : TE} {d e : PyData} {ds : List PyData} {j : Nat} {o : Out}
theorem does_drop (h : DV H0 te ρ d) : Does G0 H0 (tDrop te) ρ (.nx ρ) := fun D σ G H x S k => h σ G H x.gh S _ fun v G' H' x' r => k _ G' H' (x.trans x') x'.g (S.ext x')
/-- a def whose body comes to its end -/
theorem rd_doesN {R : List PyData → PyData → Prop} {N : List Str} {vs : List V} {H : Hp} {Q : VK} {E : XK} {t : TS} (n m : Nat) (h : PSp R vs H Q E) (hn : N.length - m = n) (hR : ∀ ds d, R ds d → ds.length = m ∧ d = .none) (k : ∀ G0 H0 ds d, R ds d → ∃ ρ, Does G0 H0 t (startR n ds) (.nx ρ)) :
    t { nx := fun _ H' => Q .non H', rt := Q } (L2.start N vs) H := by
  obtain ⟨G, ds, d, e, r, hr, q⟩ := h
  obtain ⟨ρ, hk⟩ := k G H ds d hr
  refine hk _ _ G H (Ext.refl e) (start_slots r n (by rw [(hR ds d hr).1]; exact hn)) fun σ' G' H' x _ S => q .non G' H' x ?_
  rw [(hR ds d hr).2]
  exact .non
/-- xs.index(x) -/
theorem dv_index {α : Type} [DecidableEq α] {f : α → PyData} {n : Nat} (en : Enc f n) (hn : n ≤ 60) {xs : List α} {x : α} {i : Nat} (ha : DVr H0 ta ρ (dL f xs)) (hb : DVr H0 tb ρ (f x)) (hi : xs[i]? = some x) (hno : ∀ m, m < i → xs[m]? ≠ some x) :
    DV H0 (tBM K "list" (rIndexD K) ta (tCons tb tNil)) ρ (.int (i : Nat)) := fun σ G H hx S Q q => ha σ G H hx S _ fun v H1 e1 r1 => by
  obtain ⟨a, vs, rfl, h1, ra⟩ := r1.lst_inv
  refine ⟨Or.inl ⟨rfl, vs, SqL.of h1⟩, hb σ G H1 (Ex.trans hx e1) (S.ext (Ext.hs hx e1)) _ fun y H2 e2 r2 => ?_⟩
  refine ⟨a, y, f x, xs.map f, i, f x, rfl, rfl, (r1.mono e2).dp, r2.dp, en.list.shaped (by omega) xs, en.shaped (by omega) x, map_at hi, by rw [en.eqv]; exact decide_eq_true rfl, fun m z hm hz => ?_, q _ G H2 (Ext.hs hx (Ex.trans e1 e2)) (.int _)⟩
  obtain ⟨x', hx', rfl⟩ := at_map hz
  rw [en.eqv]
  exact decide_eq_false fun e => hno m hm (by rw [hx', e])
end
end U
namespace U
open PySem L2 Evl
/-! ### comprehensions over data of a Lean type -/
section
variable {K : PySem.W.Frag} {H0 : Hp} {ρ : Rho} {ta tb te tl : TE} {tt : TT} {j : Nat} {α : Type} {fe : α → PyData} {xs : List α}
theorem takeX_yes {p : α → Bool} {g : α → PyData} {i : Nat} {x : α} (h : xs[i]? = some x) (hf : p x = true) : ((xs.take (i + 1)).filter p).map g = ((xs.take i).filter p).map g ++ [g x] := by
  rw [List.take_add_one, h, List.filter_append, List.map_append]
  show _ ++ ((([x] : List α).filter p).map g) = _
  rw [List.filter_cons, if_pos hf]
  rfl
theorem takeX_no {p : α → Bool} {g : α → PyData} {i : Nat} {x : α} (h : xs[i]? = some x) (hf : p x = false) : ((xs.take (i + 1)).filter p).map g = ((xs.take i).filter p).map g := by
  rw [List.take_add_one, h, List.filter_append, List.map_append]
  show _ ++ ((([x] : List α).filter p).map g) = _
  rw [List.filter_cons, if_neg (by rw [hf]; decide)]
  exact List.append_nil _
theorem lc_datX {J : It} {n : Nat} {Gs : Hp → Prop} {Y : Nat → Hp → V → Hp → Prop} {σ : L2.St} {G1 H1 : Hp} {D : Addr} {Qd : Hp → Prop} (w : Walk J n Gs Y) (e1 : Ex G1 H1) (S : Slots H0 ρ σ G1 H1) (hG : ∀ H', Ex H1 H' → Gs H')
    (hY : ∀ i H x H', i < n → Ex H1 H → Y i H x H' → H' = H ∧ ∃ d, xs[i]? = some d ∧ Rp G1 x (fe d)) (hn : n = xs.length) (hz : n ≤ 40000) (hD : H1 D = none) (p : α → Bool) (g : α → PyData)
    (ht : ∀ x, x ∈ xs → TV H0 tt (cR ρ j (fe x)) (p x)) (he : ∀ x, x ∈ xs → p x = true → DV H0 te (cR ρ j (fe x)) (g x))
    (k : ∀ vs G' H', Ext G1 H1 G' H' → G' D = none → H' D = some (.lst vs) → RpAll G' vs ((xs.filter p).map g) → Qd H') :
    ∃ W : Nat → Nat → Hp → Prop, (∃ m, W 0 m (upd H1 D (.lst []))) ∧ ∀ i m H, W i m H →
      (J.stop i H ∧ Qd H) ∨ (J.go i H ∧ ∃ Nx : Hp → Prop, (∀ H', Nx H' → ∃ m', m' < m ∧ W (i + 1) m' H') ∧ ∀ x H', J.yld i H x H' → gName j x (wipe σ [j]) H' fun σ2 H2 => wipe σ2 [j] = wipe σ [j] ∧ tt σ2 H2 fun b H3 =>
        if b = true then te σ2 H3 fun y H4 => ∃ acc, H4 D = some (.lst acc) ∧ acc.length < sizeLine ∧ Nx (upd H4 D (.lst (acc ++ [y]))) else Nx H3) := by
  refine lc_it w (fun i H' => ∃ G' vs, Ext G1 H1 G' H' ∧ G' D = none ∧ H' D = some (.lst vs) ∧ vs.length ≤ i ∧ RpAll G' vs (((xs.take i).filter p).map g)) ⟨G1, [], Ext.hs e1 (Ex.new hD), fresh_back e1 hD, upd_same, Nat.le_refl _, .nil⟩
    (fun i H' _ ⟨_, _, x, _⟩ => hG H' x.h) (fun i x H' H2 hi ⟨G', vs, x', gD, hD', hlen, rv⟩ y => ?_) (fun H' ⟨G', vs, x', gD, hD', _, rv⟩ => k vs G' H' x' gD hD' (by rw [hn, List.take_length] at rv; exact rv))
  obtain ⟨rfl, d, hd, rd⟩ := hY i H' x H2 hi x'.h y
  have hm : d ∈ xs := List.mem_of_getElem? hd
  have S' : Slots H0 (cR ρ j (fe d)) ((wipe σ [j]).set j (some x)) G' H2 := ((S.ext x').setAny (i := j) (s := none)).setImm (rd.mono x'.g)
  refine ⟨wipe1, ht d hm _ G' H2 x'.gh S' _ fun H3 e3 => ?_⟩
  cases hf : p d with
  | false =>
    show ∃ G' vs, _
    exact ⟨G', vs, x'.trans (Ext.hs x'.gh e3), gD, e3 D _ hD', Nat.le_succ_of_le hlen, by rw [takeX_no hd hf]; exact rv⟩
  | true =>
    show te _ H3 _
    refine he d hm hf _ G' H3 (Ex.trans x'.gh e3) (S'.ext (Ext.hs x'.gh e3)) _ fun y G4 H4 x4 r4 => ?_
    have gD4 : G4 D = none := x4.fr D gD (ne_none (e3 D _ hD'))
    exact ⟨vs, x4.h D _ (e3 D _ hD'), sz_lt (by omega), G4, vs ++ [y], ((x'.trans (Ext.hs x'.gh e3)).trans x4).own hD gD4, gD4, upd_same, by rw [List.length_append, List.length_singleton]; omega,
      by rw [takeX_yes hd hf]; exact (rv.mono x4.g).append (.one r4)⟩
theorem RpAll.ofVX {H : Hp} {vs : List V} {i : Nat} {v : V} (r : RpAll H vs (xs.map fe)) (e : vs[i]? = some v) : ∃ x, xs[i]? = some x ∧ Rp H v (fe x) := by
  obtain ⟨d, hd, rd⟩ := r.ofV e
  obtain ⟨x, hx, rfl⟩ := at_map hd
  exact ⟨x, hx, rd⟩
theorem nl_lcX (hl : DV H0 tl ρ (.list (xs.map fe))) (p : α → Bool) (g : α → PyData) (hz : xs.length ≤ 40000) (ht : ∀ x, x ∈ xs → TV H0 tt (cR ρ j (fe x)) (p x)) (he : ∀ x, x ∈ xs → p x = true → DV H0 te (cR ρ j (fe x)) (g x)) :
    NL H0 (tLc (iList K tl) (gName j) tt te [j]) ρ ((xs.filter p).map g) := fun σ G H hx S Q q => hl σ G H hx S _ fun v G1 H1 x1 r1 => by
  obtain ⟨a, vs, rfl, h, ra⟩ := r1.lst_inv
  have hlen : vs.length = xs.length := by rw [ra.len, List.length_map]
  refine ⟨a, rfl, ⟨vs, SqL.of (x1.gh _ _ h)⟩, fun D hD => lc_datX (fe := fe) (xs := xs) (walk_list (K := K) (a := a) (xs := vs)) x1.gh (S.ext x1) (fun H' e => SqL.of (e _ _ (x1.gh _ _ h))) (fun i H' x H2 _ _ y => ⟨y.1, ra.ofVX y.2⟩) hlen (by rw [hlen]; exact hz) hD p g ht he
    fun vs G' H' x' gD hD' rv => q D vs G' H' (x1.trans x') (fresh_back x1.h hD) gD hD' rv⟩
theorem nl_lcTX (hl : DV H0 tl ρ (.tuple (xs.map fe))) (p : α → Bool) (g : α → PyData) (hz : xs.length ≤ 40000) (ht : ∀ x, x ∈ xs → TV H0 tt (cR ρ j (fe x)) (p x)) (he : ∀ x, x ∈ xs → p x = true → DV H0 te (cR ρ j (fe x)) (g x)) :
    NL H0 (tLc (iTup K tl) (gName j) tt te [j]) ρ ((xs.filter p).map g) := fun σ G H hx S Q q => hl σ G H hx S _ fun v G1 H1 x1 r1 => by
  obtain ⟨a, vs, rfl, h, ra⟩ := r1.tup_inv
  have hlen : vs.length = xs.length := by rw [ra.len, List.length_map]
  refine ⟨a, rfl, ⟨vs, SqT.of (x1.gh _ _ h)⟩, fun D hD => lc_datX (fe := fe) (xs := xs) (walk_tup (K := K) (a := a) (xs := vs)) x1.gh (S.ext x1) (fun H' e => SqT.of (e _ _ (x1.gh _ _ h))) (fun i H' x H2 _ _ y => ⟨y.1, ra.ofVX y.2⟩) hlen (by rw [hlen]; exact hz) hD p g ht he
    fun vs G' H' x' gD hD' rv => q D vs G' H' (x1.trans x') (fresh_back x1.h hD) gD hD' rv⟩
/-- over range(1, m + 1) .. -/
theorem nl_lcRX {lo hi : Int} {n : Nat} {ta : TA} (hl : AVr H0 ta ρ [.int lo, .int hi]) (p : Nat → Bool) (g : Nat → PyData) (hn : (hi - lo).toNat = n) (hb : 0 ≤ lo ∧ lo ≤ 40000 ∧ 0 ≤ hi ∧ hi ≤ 40000) (ht : ∀ i, i < n → TV H0 tt (cR ρ j (.int (lo + (i : Nat)))) (p i)) (he : ∀ i, i < n → p i = true → DV H0 te (cR ρ j (.int (lo + (i : Nat)))) (g i)) :
    NL H0 (tLc (iRng2 ta) (gName j) tt te [j]) ρ (((List.range n).filter p).map g) := fun σ G H hx S Q q => hl σ G H hx S _ fun v H1 e1 r1 => by
  have x1 := Ext.hs hx e1
  cases r1 with
  | cons ra rr =>
    cases rr with
    | cons rb rr =>
      cases rr
      subst hn
      refine ⟨lo, hi, by rw [ra.int_inv, rb.int_inv], ⟨by omega, by omega, by omega, by omega⟩, fun D hD => lc_datX (fe := fun i : Nat => PyData.int (lo + (i : Nat))) (xs := List.range (hi - lo).toNat) (walk_range (lo := lo) (n := (hi - lo).toNat)) x1.gh (S.ext x1) (fun _ _ => True.intro)
        (fun i H' x H2 hi _ y => ⟨y.1, i, List.getElem?_range hi, by rw [y.2]; exact .int _⟩) List.length_range.symm (by omega) hD p g (fun i hi => ht i (List.mem_range.mp hi)) (fun i hi => he i (List.mem_range.mp hi))
        fun vs G' H' x' gD hD' rv => q D vs G' H' (x1.trans x') (fresh_back x1.h hD) gD hD' rv⟩
theorem filter_all {xs : List α} : xs.filter (fun _ => true) = xs := List.filter_eq_self.mpr fun _ _ => rfl
/-- .. without a test -/
theorem nl_mapX (hl : DV H0 tl ρ (.list (xs.map fe))) (g : α → PyData) (hz : xs.length ≤ 40000) (he : ∀ x, x ∈ xs → DV H0 te (cR ρ j (fe x)) (g x)) : NL H0 (tLc (iList K tl) (gName j) tYes te [j]) ρ (xs.map g) :=
  (nl_lcX hl (fun _ => true) g hz (fun _ _ => tv_yes) fun x h _ => he x h).is (by rw [filter_all])
theorem nl_mapTX (hl : DV H0 tl ρ (.tuple (xs.map fe))) (g : α → PyData) (hz : xs.length ≤ 40000) (he : ∀ x, x ∈ xs → DV H0 te (cR ρ j (fe x)) (g x)) : NL H0 (tLc (iTup K tl) (gName j) tYes te [j]) ρ (xs.map g) :=
  (nl_lcTX hl (fun _ => true) g hz (fun _ _ => tv_yes) fun x h _ => he x h).is (by rw [filter_all])
/-- .. that keeps the items -/
theorem nl_filX (hl : DV H0 tl ρ (.list (xs.map fe))) (p : α → Bool) (hz : xs.length ≤ 40000) (hj : j < ρ.length) (ht : ∀ x, x ∈ xs → TV H0 tt (cR ρ j (fe x)) (p x)) : NL H0 (tLc (iList K tl) (gName j) tt (tVar j) [j]) ρ ((xs.filter p).map fe) :=
  nl_lcX hl p fe hz ht fun x h _ => dv_var (List.getElem?_set_self (by rw [List.length_set]; exact hj))
end
end U
namespace U
open PySem L2 Evl
section
variable {P : Program} {w : World} {K : PySem.W.Frag} {mg : Str → Option Value} {base : Heap}
/-! ### orders -/
abbrev RIsWhole := RF (fun i : Int => [dI i]) (fun _ => True) fun _ => .bool true
theorem ok_is_whole (T : Txt K mg) : FnOk P w K mg base CX0 1 T.is_whole.f T.is_whole.fd ["thing"] (PSp RIsWhole) := by
  refine T.is_whole.F.ok sc_is_whole (fun vs H Q E h => psp_len (rf_len fun _ => rfl) h) (fun cdv A outer s H vs Q E hr h => ?_)
  refine ⟨_, (pss_one (ps_ret (pe_and (pe_callB (k_isi (K := K) rfl) (by rfl) T.isinstance (by decide +kernel) (pa_cons (pv 0) (pa_cons (pe_bltn (v := .ty "int") (by rfl) T.int (by decide +kernel) rfl) pa_nil))) (pe_one (pe_not (pe_callB (k_isi (K := K) rfl) (by rfl) T.isinstance (by decide +kernel) (pa_cons (pv 0) (pa_cons (pe_bltn (v := .ty "bool") (by rfl) T.bool (by decide +kernel) rfl) pa_nil)))))))), ?_⟩
  refine rd_does 0 1 h rfl (rf_len fun _ => rfl) fun G0 H0 ds d hR => ?_
  obtain ⟨i, rfl, _, rfl⟩ := hR
  exact does_ret ((dv_and (dv_isi (b := true) (dv_var rfl).r (by decide +kernel)).r fun _ => (dv_not (dv_isi (b := false) (dv_var rfl).r (by decide +kernel)).r).r).is rfl)
abbrev RPlain := RF (fun n : Nat => [dI n]) (fun n => n ≤ 4) fun n => dO (plain n)
theorem ok_plain_order (T : Txt K mg) : FnOk P w K mg base CX0 1 T.plain_order.f T.plain_order.fd ["n"] (PSp RPlain) := by
  refine T.plain_order.F.ok sc_plain_order (fun vs H Q E h => psp_len (rf_len fun _ => rfl) h) (fun cdv A outer s H vs Q E hr h => ?_)
  refine ⟨_, (pss_one (ps_ret (pe_tupRg rfl (by rfl) T.tuple (prg_2 (by rfl) T.range pe_int (pe_op op_add (pv 0) pe_int))))), ?_⟩
  refine rd_does 0 1 h rfl (rf_len fun _ => rfl) fun G0 H0 ds d hR => ?_
  obtain ⟨n, rfl, hn, rfl⟩ := hR
  refine does_ret ((dv_tupRg dv_int.r (dv_ii (dv_var rfl).r dv_int.r).r (RgOk.of_le (by decide) (by omega) (by decide) (by omega))).is ?_)
  have e : ((n : Int) + 1 - 1).toNat = n := by omega
  rw [e]
  show PyData.tuple _ = PyData.tuple (List.map _ (List.map _ _))
  rw [List.map_map]
  rfl
abbrev RPlaces := RF (fun x : Od × Nat × Nat => [dO x.1, dI ((x.2.1 + 1 : Nat)), dI ((x.2.2 + 1 : Nat))]) (fun x => x.1.length ≤ 4 ∧ x.2.1 < x.1.length ∧ x.2.2 < x.1.length) fun x => dO ((x.1.set x.2.1 (x.1.getD x.2.2 0)).set x.2.2 (x.1.getD x.2.1 0))
theorem getD_at {o : Od} {i : Nat} (h : i < o.length) : (o.map PyData.int)[i]? = some (.int (o.getD i 0)) := by
  rw [List.getElem?_map, List.getElem?_eq_getElem h, List.getD_eq_getElem?_getD, List.getElem?_eq_getElem h]
  rfl
theorem ok_places_changed (T : Txt K mg) : FnOk P w K mg base CX0 1 T.places_changed.f T.places_changed.fd ["order", "i", "j"] (PSp RPlaces) := by
  refine T.places_changed.F.ok sc_places_changed (fun vs H Q E h => psp_len (rf_len fun _ => rfl) h) (fun cdv A outer s H vs Q E hr h => ?_)
  refine ⟨_, (pss_cons (ps_set (i := 3) sc_places_changed.nd rfl (Or.inl rfl) (pe_callTy (k_list (K := K) rfl) (by rfl) T.list (by decide +kernel) (pa_cons (pv 0) pa_nil)))
      (pss_cons (ps_asg (pe_tup (pa_cons (pe_ix (k_ixT (K := K) rfl) (pv 0) (pe_op op_sub (pv 2) pe_int) (fun _ _ => rfl)) (pa_cons (pe_ix (k_ixT (K := K) rfl) (pv 0) (pe_op op_sub (pv 1) pe_int) (fun _ _ => rfl)) pa_nil))) (pg_tup rfl (pgs_cons (pg_sub (pv 3) (pe_op op_sub (pv 1) pe_int) set_list) (pgs_cons (pg_sub (pv 3) (pe_op op_sub (pv 2) pe_int) set_list) pgs_nil))))
      (pss_one (ps_ret (pe_callTy (k_tuple (K := K) rfl) (by rfl) T.tuple (by decide +kernel) (pa_cons (pv 3) pa_nil)))))), ?_⟩
  refine rd_does 1 3 h rfl (rf_len fun _ => rfl) fun G0 H0 ds d hR => ?_
  obtain ⟨⟨o, a, b⟩, rfl, ⟨hl, ha, hb⟩, rfl⟩ := hR
  have ea : ((a + 1 : Nat) : Int) - 1 = (a : Int) := by omega
  have eb : ((b + 1 : Nat) : Int) - 1 = (b : Int) := by omega
  refine does_seq (does_own (nl_listT (dv_var rfl))) ?_
  refine does_seq (does_set2 (m := a) (n := b) rfl (dv_tup (av_cons (dv_ixT (dv_var rfl) (dv_ii (dv_var rfl).r dv_int.r).r eb (getD_at hb)) (av_cons (dv_ixT (dv_var rfl) (dv_ii (dv_var rfl).r dv_int.r).r ea (getD_at ha)) av_nil)) (by show 2 ≤ 100000; decide))
    (dv_ii (dv_var rfl).r dv_int.r).r ea (by rw [List.length_map]; exact ha) (dv_ii (dv_var rfl).r dv_int.r).r eb (by rw [List.length_map]; exact hb) fun ds' => (dv_ii (dv_var rfl).r dv_int.r).r) ?_
  refine does_ret ((dv_tupO rfl).is ?_)
  rw [← List.map_set, ← List.map_set]
abbrev RIsEx := RF (fun x : Int × Int => [dI x.1, dI x.2]) (fun _ => True) fun x => .bool (decide (1 ≤ x.1) && decide (x.1 < x.2))
theorem ok_is_exchange (T : Txt K mg) : FnOk P w K mg base CX0 2 T.is_exchange.f T.is_exchange.fd ["k", "n"] (PSp RIsEx) := by
  refine T.is_exchange.F.ok sc_is_exchange (fun vs H Q E h => psp_len (rf_len fun _ => rfl) h) (fun cdv A outer s H vs Q E hr h => ?_)
  refine ⟨_, (pss_one (ps_ret (pe_and (pe_dn T.is_whole (ok_is_whole T) hr (by decide) (pa_cons (pv 0) pa_nil)) (pe_one (pe_chain op_le op_lt pe_int (pv 0) (pv 1)))))), ?_⟩
  refine rd_does 0 2 h rfl (rf_len fun _ => rfl) fun G0 H0 ds d hR => ?_
  obtain ⟨⟨k, n⟩, rfl, _, rfl⟩ := hR
  exact does_ret ((dv_and (b := true) (dv_call (av_cons (dv_var rfl) av_nil) ⟨k, rfl, True.intro, rfl⟩).r fun _ => (dv_chain (p := fun i j => decide (i ≤ j)) (q := fun i j => decide (i < j)) dv_int.r (dv_var rfl).r (dv_var rfl).r).r).is (by rw [Bool.true_and]))
abbrev RExch := RF (fun x : Od × Nat => [dO x.1, dI x.2]) (fun x => x.1.length ≤ 4 ∧ 1 ≤ x.2 ∧ x.2 < x.1.length) fun x => dO (exch x.1 x.2)
theorem ok_exchanged (T : Txt K mg) : FnOk P w K mg base CX0 3 T.exchanged.f T.exchanged.fd ["order", "k"] (PSp RExch) := by
  refine T.exchanged.F.ok sc_exchanged (fun vs H Q E h => psp_len (rf_len fun _ => rfl) h) (fun cdv A outer s H vs Q E hr h => ?_)
  refine ⟨_, (pss_cons (ps_if (pt_not (pt_val (pe_dn T.is_exchange (ok_is_exchange T) hr (by decide) (pa_cons (pv 1) (pa_cons (pe_callB (k_len (K := K) rfl) (by rfl) T.len (by decide +kernel) (pa_cons (pv 0) pa_nil)) pa_nil)))))
        (pss_one ps_never)
        pss_nil)
      (pss_one (ps_ret (pe_dn T.places_changed (ok_places_changed T) hr (by decide) (pa_cons (pv 0) (pa_cons (pv 1) (pa_cons (pe_op op_add (pv 1) pe_int) pa_nil))))))), ?_⟩
  refine rd_does 0 2 h rfl (rf_len fun _ => rfl) fun G0 H0 ds d hR => ?_
  obtain ⟨⟨o, k⟩, rfl, ⟨hl, h1, hk⟩, rfl⟩ := hR
  have hk : k < o.length := hk
  have h1 : 1 ≤ k := h1
  have e1 : ((k - 1 + 1 : Nat) : Int) = (k : Int) := by omega
  have e2 : ((k + 1 : Nat) : Int) = (k : Int) + 1 := by omega
  refine does_seq (does_ifF ((tv_not (tv_val (dv_call (av_cons (dv_var rfl) (av_cons (dv_lenT (dv_var rfl).r) av_nil)) ⟨((k : Int), (o.length : Int)), by simp only [List.length_map], True.intro, rfl⟩).r)).is ?_) does_next) ?_
  · show (!(decide ((1 : Int) ≤ (k : Int)) && decide ((k : Int) < (o.length : Int)))) = false
    rw [decide_eq_true (by omega), decide_eq_true (by omega)]
    rfl
  · exact does_ret (dv_call (av_cons (dv_var rfl) (av_cons (dv_var rfl) (av_cons (dv_ii (dv_var rfl).r dv_int.r) av_nil))) ⟨(o, k - 1, k), by simp only [e1, e2], ⟨hl, by show k - 1 < o.length; omega, hk⟩, rfl⟩)
abbrev RFall := RF (fun x : Od × Nat => [dO x.1, dI x.2]) (fun x => 1 ≤ x.2 ∧ x.2 < x.1.length) fun x => .bool (fall x.1 x.2)
theorem ok_is_fall (T : Txt K mg) : FnOk P w K mg base CX0 1 T.is_fall.f T.is_fall.fd ["order", "k"] (PSp RFall) := by
  refine T.is_fall.F.ok sc_is_fall (fun vs H Q E h => psp_len (rf_len fun _ => rfl) h) (fun cdv A outer s H vs Q E hr h => ?_)
  refine ⟨_, (pss_one (ps_ret (pe_cmpR op_gt (pe_ix (k_ixT (K := K) rfl) (pv 0) (pe_op op_sub (pv 1) pe_int) (fun _ _ => rfl)) (pe_ix (k_ixT (K := K) rfl) (pv 0) (pv 1) (fun _ _ => rfl)) (nomark _)))), ?_⟩
  refine rd_does 0 2 h rfl (rf_len fun _ => rfl) fun G0 H0 ds d hR => ?_
  obtain ⟨⟨o, k⟩, rfl, ⟨h1, hk⟩, rfl⟩ := hR
  have hk : k < o.length := hk
  have h1 : 1 ≤ k := h1
  exact does_ret (dv_ib (f := fun i j => decide (j < i)) (dv_ixT (n := k - 1) (dv_var rfl) (dv_ii (dv_var rfl).r dv_int.r).r (by omega) (getD_at (by omega))).r (dv_ixT (n := k) (dv_var rfl) (dv_var rfl).r rfl (getD_at hk)).r)
end
end U
namespace U
open PySem L2 Evl
section
variable {P : Program} {w : World} {K : PySem.W.Frag} {mg : Str → Option Value} {base : Heap}
/-! ### tables of letters -/
def placeFor (row : List Int) (letter : Int) : Nat := (row.filter fun one => decide (one ≤ letter)).length
abbrev RPlaceFor := RF (fun x : List Int × Int => [dLs x.1, dI x.2]) (fun x => x.1.length ≤ 20) fun x => dI (placeFor x.1 x.2)
theorem ok_place_for (T : Txt K mg) : FnOk P w K mg base CX0 1 T.place_for.f T.place_for.fd ["row", "letter"] (PSp RPlaceFor) := by
  refine T.place_for.F.ok sc_place_for (fun vs H Q E h => psp_len (rf_len fun _ => rfl) h) (fun cdv A outer s H vs Q E hr h => ?_)
  refine ⟨_, (pss_one (ps_ret (pe_callB (k_len (K := K) rfl) (by rfl) T.len (by decide +kernel) (pa_cons (pe_lc (own := [("one", 2)]) (g := gName 2) rfl sc_place_for.nd (kpi_list (K := K) rfl (pv 0)) (blkOk_by (N := ["row", "letter", "one"]) (sc := defScope s_place_for) (by decide +kernel)) (fun _ _ _ _ _ => (pg_name (i := 2) sc_place_for.nd rfl (by first | exact Or.inl rfl | exact Or.inr rfl))) (fun _ _ _ _ _ => (pts_one (pt_cmpR op_le (pv 2) (pv 1) (nomark _)))) (fun _ _ _ _ _ => (pv 2))) pa_nil)))), ?_⟩
  refine rd_does 1 2 h rfl (rf_len fun _ => rfl) fun G0 H0 ds d hR => ?_
  obtain ⟨⟨row, letter⟩, rfl, hl, rfl⟩ := hR
  have hl : row.length ≤ 20 := hl
  refine does_ret ((dv_len (nl_lc (ds := row.map dI) (dv_var rfl) (fun d => match d with | .int i => decide (i ≤ letter) | _ => false) id (by rw [List.length_map]; omega) (fun d hd => ?_) fun d hd _ => dv_var rfl).r).is ?_)
  · obtain ⟨i, hi, rfl⟩ := List.mem_map.mp hd
    exact tv_cmp (dv_ib (f := fun i j => decide (i ≤ j)) (dv_var rfl).r (dv_var rfl).r).r
  · unfold placeFor
    rw [List.map_id, List.filter_map, List.length_map]
    rfl
abbrev RShape := RF (fun t : List (List Int) => [dLL t]) (fun t => t.length ≤ 20) fun t => dLs (t.map fun r => (r.length : Int))
theorem ok_shape (T : Txt K mg) : FnOk P w K mg base CX0 1 T.shape.f T.shape.fd ["table"] (PSp RShape) := by
  refine T.shape.F.ok sc_shape (fun vs H Q E h => psp_len (rf_len fun _ => rfl) h) (fun cdv A outer s H vs Q E hr h => ?_)
  refine ⟨_, (pss_one (ps_ret (pe_lc (own := [("row", 1)]) (g := gName 1) (tt := tYes) rfl sc_shape.nd (kpi_list (K := K) rfl (pv 0)) (blkOk_by (N := ["table", "row"]) (sc := defScope s_shape) (by decide +kernel)) (fun _ _ _ _ _ => (pg_name (i := 1) sc_shape.nd rfl (by first | exact Or.inl rfl | exact Or.inr rfl))) (fun _ _ _ _ _ => pts_nil) (fun _ _ _ _ _ => (pe_callB (k_len (K := K) rfl) (by rfl) T.len (by decide +kernel) (pa_cons (pv 1) pa_nil)))))), ?_⟩
  refine rd_does 1 1 h rfl (rf_len fun _ => rfl) fun G0 H0 ds d hR => ?_
  obtain ⟨t, rfl, hl, rfl⟩ := hR
  refine does_ret ((nl_lc (ds := t.map dLs) (dv_var rfl) (fun _ => true) (fun d => match d with | .list xs => .int (xs.length : Nat) | _ => .none) (by rw [List.length_map]; omega) (fun d hd => tv_yes) fun d hd _ => ?_).dv.is ?_)
  · obtain ⟨r, hr, rfl⟩ := List.mem_map.mp hd
    exact dv_len (dv_var rfl).r
  · rw [List.filter_eq_self.mpr fun _ _ => rfl]
    show PyData.list _ = PyData.list _
    rw [List.map_map, List.map_map]
    congr 1
    refine List.map_congr_left fun r _ => ?_
    show PyData.int (((r.map dI).length : Nat) : Int) = _
    rw [List.length_map]
    rfl
/-! ### a letter put in -/
def putStep (s : List (List Int) × List Int) (row : List Int) : List (List Int) × List Int :=
  if s.2 = [] then (s.1 ++ [row], []) else (s.1 ++ [row.take (placeFor row (s.2.getD 0 0)) ++ s.2 ++ row.drop (placeFor row (s.2.getD 0 0) + 1)], (row.drop (placeFor row (s.2.getD 0 0))).take 1)
def putAll (table : List (List Int)) (letter : Int) : List (List Int) × List Int := table.foldl putStep ([], [letter])
def putIn (table : List (List Int)) (letter : Int) : List (List Int) := if (putAll table letter).2 = [] then (putAll table letter).1 else (putAll table letter).1 ++ [(putAll table letter).2]
theorem place_le (row : List Int) (l : Int) : placeFor row l ≤ row.length := by
  unfold placeFor
  exact List.length_filter_le _ _
theorem put_inv : ∀ (t : List (List Int)) (s : List (List Int) × List Int), s.2.length ≤ 1 → (t.foldl putStep s).2.length ≤ 1 ∧ (t.foldl putStep s).1.length = s.1.length + t.length
  | [], s, h => ⟨h, rfl⟩
  | r :: t, s, h => by
    have h2 : (putStep s r).2.length ≤ 1 ∧ (putStep s r).1.length = s.1.length + 1 := by
      unfold putStep
      split
      · exact ⟨Nat.zero_le _, by rw [List.length_append, List.length_singleton]⟩
      · refine ⟨?_, by rw [List.length_append, List.length_singleton]⟩
        show ((r.drop _).take 1).length ≤ 1
        rw [List.length_take]
        exact Nat.min_le_left _ _
    have ih := put_inv t (putStep s r) h2.1
    rw [List.foldl_cons, List.length_cons]
    exact ⟨ih.1, by rw [ih.2, h2.2]; omega⟩
theorem foldl_take {α β : Type} (f : β → α → β) {xs : List α} {i : Nat} {x : α} (h : xs[i]? = some x) (b : β) : (xs.take (i + 1)).foldl f b = f ((xs.take i).foldl f b) x := by
  rw [List.take_add_one, h, List.foldl_append]
  rfl
theorem sIx_to {n d a : Nat} (h : a ≤ n) : HT.sIx n d (some (a : Int)) = a := by
  rw [HT.sIx_nat]
  exact Nat.min_eq_left h
theorem cut_hi {xs : List PyData} {p n : Nat} (hn : xs.length = n) : (xs.drop (min (p + 1) n)).take (n - min (p + 1) n) = xs.drop (p + 1) := by
  subst hn
  rcases Nat.lt_or_ge p xs.length with h | h
  · rw [Nat.min_eq_left (by omega)]
    exact List.take_of_length_le (by rw [List.length_drop]; exact Nat.le_refl _)
  · rw [Nat.min_eq_right (by omega), List.drop_of_length_le (Nat.le_refl _), List.drop_of_length_le (by omega), List.take_nil]
theorem cut_mid {xs : List PyData} {p n : Nat} (hn : xs.length = n) (hp : p ≤ n) : (xs.drop p).take (min (p + 1) n - p) = (xs.drop p).take 1 := by
  subst hn
  rcases Nat.lt_or_ge p xs.length with h | h
  · rw [Nat.min_eq_left (by omega), show p + 1 - p = 1 by omega]
  · rw [List.drop_of_length_le h, List.take_nil, List.take_nil]
abbrev RPutIn := RF (fun x : List (List Int) × Int => [dLL x.1, dI x.2]) (fun x => x.1.length ≤ 20 ∧ ∀ r, r ∈ x.1 → r.length ≤ 20) fun x => dLL (putIn x.1 x.2)
theorem ok_put_in (T : Txt K mg) : FnOk P w K mg base CX0 2 T.put_in.f T.put_in.fd ["table", "letter"] (PSp RPutIn) := by
  refine T.put_in.F.ok sc_put_in (fun vs H Q E h => psp_len (rf_len fun _ => rfl) h) (fun cdv A outer s H vs Q E hr h => ?_)
  refine ⟨_, (pss_cons (ps_set (i := 2) sc_put_in.nd rfl (Or.inl rfl) (pe_lst pa_nil))
      (pss_cons (ps_set (i := 3) sc_put_in.nd rfl (Or.inl rfl) (pe_lst (pa_cons (pv 1) pa_nil)))
      (pss_cons (ps_for PassesOwn.never rfl (kpi_list (K := K) rfl (pv 0)) (pg_name (i := 4) sc_put_in.nd rfl (Or.inl rfl))
        (pss_cons (ps_set (i := 5) sc_put_in.nd rfl (Or.inl rfl) (pe_callTy (k_list (K := K) rfl) (by rfl) T.list (by decide +kernel) (pa_cons (pv 4) pa_nil)))
        (pss_cons (ps_if (pt_cmpR (k_neD (K := K) rfl (hu64 hr)) (pv 3) (pe_lst pa_nil) (nomark _))
          (pss_cons (ps_set (i := 6) sc_put_in.nd rfl (Or.inl rfl) (pe_dn T.place_for (ok_place_for T) hr (by decide) (pa_cons (pv 4) (pa_cons (pe_ix (k_ixL (K := K) rfl) (pv 3) pe_int (fun _ _ => rfl)) pa_nil))))
          (pss_one (ps_par (i := 5) (j := 3) rfl sc_put_in.nd rfl rfl (by decide) rfl rfl (pa_cons (pe_op op_cat (pe_op op_cat (pe_slice (k_slL (K := K) rfl) (pv 4) po_none (po_some (pv 6))) (pv 3)) (pe_slice (k_slL (K := K) rfl) (pv 4) (po_some (pe_op op_add (pv 6) pe_int)) po_none)) (pa_cons (pe_slice (k_slL (K := K) rfl) (pv 4) (po_some (pv 6)) (po_some (pe_op op_add (pv 6) pe_int))) pa_nil)) (by rfl))))
          pss_nil)
        (pss_one (ps_expr (pe_bm PySem.F.plainAttrs_list PySem.F.slot_list_append PySem.F.type_list_append mt_append (pv 2) (pa_cons (pv 5) pa_nil)))))))
      (pss_cons (ps_if (pt_cmpR (k_neD (K := K) rfl (hu64 hr)) (pv 3) (pe_lst pa_nil) (nomark _))
        (pss_one (ps_expr (pe_bm PySem.F.plainAttrs_list PySem.F.slot_list_append PySem.F.type_list_append mt_append (pv 2) (pa_cons (pv 3) pa_nil))))
        pss_nil)
      (pss_one (ps_ret (pv 2))))))), ?_⟩
  refine rd_does 5 2 h rfl (rf_len fun _ => rfl) fun G0 H0 ds d hR => ?_
  obtain ⟨⟨t, l⟩, rfl, ⟨hl, hr'⟩, rfl⟩ := hR
  have hl : t.length ≤ 20 := hl
  refine does_seq (does_own (nl_lst av_nil (Nat.zero_le _))) ?_
  refine does_seq (does_asg (nl_lst (av_cons (dv_var rfl) av_nil) (by show 1 ≤ 100000; decide)).dv) ?_
  have inv : ∀ i, ((t.take i).foldl putStep ([], [l])).2.length ≤ 1 ∧ ((t.take i).foldl putStep ([], [l])).1.length ≤ 20 := fun i => by
    have q := put_inv (t.take i) ([], [l]) (Nat.le_refl _)
    refine ⟨q.1, ?_⟩
    rw [q.2, List.length_take]
    show 0 + min i t.length ≤ 20
    omega
  refine does_seq (does_for (ds := t.map dLs) (dv_var rfl) (fun i => [.imm (dLL t), .imm (dI l), .own (((t.take i).foldl putStep ([], [l])).1.map dLs), .imm (dLs ((t.take i).foldl putStep ([], [l])).2), .any, .any, .any]) rfl fun i d hd => ?_) ?_
  · obtain ⟨row, hrow, rfl⟩ := at_map hd
    have hrl : row.length ≤ 20 := hr' row (List.mem_of_getElem? hrow)
    rw [foldl_take putStep hrow]
    obtain ⟨iv1, iv2⟩ := inv i
    generalize (t.take i).foldl putStep ([], [l]) = s at iv1 iv2 ⊢
    obtain ⟨found, left⟩ := s
    have iv1 : left.length ≤ 1 := iv1
    have iv2 : found.length ≤ 20 := iv2
    refine does_seq (does_asg (nl_list (dv_var rfl)).dv) ?_
    have ne : TV H0 (tTest (tOp (rNeD K) (tVar 3) (tLst tNil))) [.imm (dLL t), .imm (dI l), .own (found.map dLs), .imm (dLs left), .imm (dLs row), .imm (.list (row.map dI)), .any] (!decide (left = [])) :=
      (tv_cmp (dv_neD (dv_var rfl).r (nl_lst av_nil (Nat.zero_le _)).r (encLs.shaped (by decide) left) (encLs.shaped (by decide) [])).r).is (by
        show (!PyData.eqv (dLs left) (dLs [])) = _
        rw [encLs.eqv left []])
    by_cases hz : left = []
    · subst hz
      refine does_seq (does_ifF (ne.is rfl) does_next) ?_
      refine does_wk (does_app rfl (dv_var rfl) (by rw [List.length_map]; omega)) ?_
      have e : putStep (found, []) row = (found ++ [row], []) := by
        unfold putStep
        rw [if_pos rfl]
      rw [e]
      show Wk [_, _, .own (found.map dLs ++ [dLs row]), _, _, _, _] [_, _, .own ((found ++ [row]).map dLs), _, _, _, _]
      rw [List.map_append]
      exact .keep (.keep (.keep (.keep (.drop (.drop (.drop .nil))))))
    · obtain ⟨a, rfl⟩ : ∃ a, left = [a] := by
        match left, hz, iv1 with
        | [a], _, _ => exact ⟨a, rfl⟩
        | [], h, _ => exact absurd rfl h
        | _ :: _ :: _, _, h => exact absurd h (by simp)
      have e : putStep (found, [a]) row = (found ++ [row.take (placeFor row a) ++ [a] ++ row.drop (placeFor row a + 1)], (row.drop (placeFor row a)).take 1) := by
        unfold putStep
        rw [if_neg hz]
        rfl
      rw [e]
      have hp := place_le row a
      have ml : (row.map dI).length = row.length := List.length_map _
      have v6 : ∀ ρ : Rho, ρ[6]? = some (.imm (dI (placeFor row a))) → DVr H0 (tVar 6) ρ (.int (placeFor row a : Nat)) := fun ρ h => (dv_var h).r
      refine does_seq (does_ifT (ne.is (by rw [decide_eq_false hz]; rfl)) (does_seq (does_asg (dv_call (av_cons (dv_var rfl) (av_cons (dv_ixL (n := 0) (dv_var rfl) dv_int.r rfl rfl) av_nil)) ⟨(row, a), rfl, hrl, rfl⟩))
        (does_par (av_cons (nl_cat (nl_cat (nl_sl (a := 0) (z := placeFor row a) (dv_var rfl) ov_none (ov_some (dv_var rfl).r) (HT.sIx_none _ _) (by rw [ml]; exact sIx_to hp)).dv (dv_var rfl) (by simp; omega)).dv
          (nl_sl (a := min (placeFor row a + 1) row.length) (z := row.length) (dv_var rfl) (ov_some (dvr_succ (n := placeFor row a) (dv_var rfl).r)) ov_none (by rw [ml]; exact HT.sIx_nat _ _ _) (by rw [HT.sIx_none, ml])).dv (by simp; omega)).dv
          (av_cons (nl_sl (a := placeFor row a) (z := min (placeFor row a + 1) row.length) (dv_var rfl) (ov_some (dv_var rfl).r) (ov_some (dvr_succ (n := placeFor row a) (dv_var rfl).r)) (by rw [ml]; exact sIx_to hp) (by rw [ml]; exact HT.sIx_nat _ _ _)).dv av_nil))))) ?_
      refine does_wk (does_app rfl (dv_var rfl) (by rw [List.length_map]; omega)) ?_
      have e1 : (((row.map dI).drop 0).take (placeFor row a - 0) ++ ([a] : List Int).map dI ++ ((row.map dI).drop (min (placeFor row a + 1) row.length)).take (row.length - min (placeFor row a + 1) row.length)) = (row.take (placeFor row a) ++ [a] ++ row.drop (placeFor row a + 1)).map dI := by
        rw [cut_hi ml, List.drop_zero, Nat.sub_zero, ← List.map_take, ← List.map_drop, List.map_append, List.map_append]
      have e2 : ((row.map dI).drop (placeFor row a)).take (min (placeFor row a + 1) row.length - placeFor row a) = ((row.drop (placeFor row a)).take 1).map dI := by
        rw [cut_mid ml hp, ← List.map_drop, ← List.map_take]
      show Wk [_, _, .own (found.map dLs ++ [PyData.list _]), .imm (PyData.list _), _, _, _] [_, _, .own ((found ++ [_]).map dLs), .imm (PyData.list _), _, _, _]
      rw [e1, e2, List.map_append (f := dLs)]
      exact .keep (.keep (.keep (.keep (.drop (.drop (.drop .nil))))))
  · rw [List.length_map, List.take_length]
    obtain ⟨iv1, iv2⟩ := inv t.length
    rw [List.take_length] at iv1 iv2
    show Does G0 H0 _ [.imm (dLL t), .imm (dI l), .own ((putAll t l).1.map dLs), .imm (dLs (putAll t l).2), .any, .any, .any] (.rt (dLL (putIn t l)))
    have iv1 : (putAll t l).2.length ≤ 1 := iv1
    have iv2 : (putAll t l).1.length ≤ 20 := iv2
    unfold putIn
    generalize putAll t l = s at iv1 iv2 ⊢
    obtain ⟨found, left⟩ := s
    have iv2 : found.length ≤ 20 := iv2
    have ne : TV H0 (tTest (tOp (rNeD K) (tVar 3) (tLst tNil))) [.imm (dLL t), .imm (dI l), .own (found.map dLs), .imm (dLs left), .any, .any, .any] (!decide (left = [])) :=
      (tv_cmp (dv_neD (dv_var rfl).r (nl_lst av_nil (Nat.zero_le _)).r (encLs.shaped (by decide) left) (encLs.shaped (by decide) [])).r).is (by
        show (!PyData.eqv (dLs left) (dLs [])) = _
        rw [encLs.eqv left []])
    by_cases hz : left = []
    · subst hz
      refine does_seq (does_ifF (ne.is rfl) does_next) ?_
      exact does_retO rfl
    · refine does_seq (does_ifT (ne.is (by rw [decide_eq_false hz]; rfl)) (does_app rfl (dv_var rfl) (by rw [List.length_map]; omega))) ?_
      refine (does_retO rfl).is ?_
      rw [if_neg hz]
      show Out.rt (PyData.list _) = Out.rt (PyData.list ((found ++ [left]).map dLs))
      rw [List.map_append]
      rfl
/-! ### the new row -/
def newRow (less more : List (List Int)) : Nat := ((List.range more.length).find? fun i => decide (i = less.length) || decide ((less.getD i []).length < (more.getD i []).length)).getD 0
def nrC (less more : List (List Int)) (i : Nat) : Bool := decide (i = less.length) || decide ((less.getD i []).length < (more.getD i []).length)
theorem newRow_eq (less more : List (List Int)) : newRow less more = ((List.range more.length).find? (nrC less more)).getD 0 := rfl
theorem dec_nat (a b : Nat) : decide ((a : Int) = (b : Int)) = decide (a = b) := decide_eq_decide.mpr ⟨fun h => by omega, fun h => by rw [h]⟩
theorem dec_lt (a b : Nat) : decide ((a : Int) < (b : Int)) = decide (a < b) := decide_eq_decide.mpr ⟨fun h => by omega, fun h => by omega⟩
theorem getD_some {α : Type} {xs : List α} {i : Nat} {x d : α} (h : xs[i]? = some x) : xs.getD i d = x := by rw [List.getD_eq_getElem?_getD, h]; rfl
abbrev RNewRow := RF (fun x : List (List Int) × List (List Int) => [dLL x.1, dLL x.2]) (fun x => x.1.length ≤ 20 ∧ x.2.length ≤ x.1.length + 1) fun x => dI (newRow x.1 x.2)
theorem ok_new_row (T : Txt K mg) : FnOk P w K mg base CX0 1 T.new_row.f T.new_row.fd ["less", "more"] (PSp RNewRow) := by
  refine T.new_row.F.ok sc_new_row (fun vs H Q E h => psp_len (rf_len fun _ => rfl) h) (fun cdv A outer s H vs Q E hr h => ?_)
  refine ⟨_, (pss_cons (ps_for PassesOwn.never rfl (pi_enum (by rfl) T.enumerate (pa_cons (pv 1) pa_nil)) (pg_tup rfl (pgs_cons (pg_name (i := 2) sc_new_row.nd rfl (Or.inl rfl)) (pgs_cons (pg_name (i := 3) sc_new_row.nd rfl (Or.inl rfl)) pgs_nil)))
        (pss_one (ps_if (PW.pt (pw_or (pt_cmpR op_eq (pv 2) (pe_callB (k_len (K := K) rfl) (by rfl) T.len (by decide +kernel) (pa_cons (pv 0) pa_nil)) (nomark _)) (pw_or1 (pt_cmpR op_lt (pe_callB (k_len (K := K) rfl) (by rfl) T.len (by decide +kernel) (pa_cons (pe_ix (k_ixL (K := K) rfl) (pv 0) (pv 2) (fun _ _ => rfl)) pa_nil)) (pe_callB (k_len (K := K) rfl) (by rfl) T.len (by decide +kernel) (pa_cons (pv 3) pa_nil)) (nomark _)))))
          (pss_one (ps_ret (pv 2)))
          pss_nil)))
      (pss_one (ps_ret pe_int))), ?_⟩
  refine rd_does 2 2 h rfl (rf_len fun _ => rfl) fun G0 H0 ds d hR => ?_
  obtain ⟨⟨less, more⟩, rfl, ⟨hl, hm⟩, rfl⟩ := hR
  have hl : less.length ≤ 20 := hl
  have hm : more.length ≤ less.length + 1 := hm
  have test : ∀ i row, more[i]? = some row → TV H0 (tOr (tTest (tOp rEq (tVar 2) (tCB (fun xs H Q => ∃ p ys, xs = [.ref p] ∧ (SqL K H p ys ∨ SqT K H p ys) ∧ Q (.int (ys.length : Nat)) H) (tCons (tVar 0) tNil))))
      (tTest (tOp (rI0 fun i j => .bl (decide (i < j))) (tCB (fun xs H Q => ∃ p ys, xs = [.ref p] ∧ (SqL K H p ys ∨ SqT K H p ys) ∧ Q (.int (ys.length : Nat)) H) (tCons (tOp (rIxL K) (tVar 0) (tVar 2)) tNil)) (tCB (fun xs H Q => ∃ p ys, xs = [.ref p] ∧ (SqL K H p ys ∨ SqT K H p ys) ∧ Q (.int (ys.length : Nat)) H) (tCons (tVar 3) tNil)))))
      [.imm (dLL less), .imm (dLL more), .imm (.int (i : Nat)), .imm (dLs row)] (nrC less more i) := fun i row hrow => by
    have hi : i < more.length := (List.getElem?_eq_some_iff.mp hrow).1
    unfold nrC
    by_cases e : i = less.length
    · refine (tv_or (b := true) (c := true) ((tv_cmp (dv_eqI (dv_var rfl).r (dv_len (dv_var rfl).r).r).r).is ?_) (fun z => nomatch z)).is ?_
      · rw [List.length_map, dec_nat]
        exact decide_eq_true e
      · rw [decide_eq_true e]
        rfl
    · have hlt : i < less.length := by omega
      have hg : (less.map dLs)[i]? = some (dLs (less.getD i [])) := by
        rw [List.getElem?_map, List.getElem?_eq_getElem hlt, getD_some (List.getElem?_eq_getElem hlt)]
        rfl
      refine (tv_or (b := false) ((tv_cmp (dv_eqI (dv_var rfl).r (dv_len (dv_var rfl).r).r).r).is ?_) (fun _ => tv_cmp (dv_ib (f := fun i j => decide (i < j)) (dv_len (dv_ixL (n := i) (dv_var rfl) (dv_var rfl).r rfl hg).r).r (dv_len (dv_var rfl).r).r).r)).is ?_
      · rw [List.length_map, dec_nat]
        exact decide_eq_false e
      · rw [List.length_map, List.length_map, dec_lt, decide_eq_false e, getD_some hrow]
  show Does G0 H0 _ _ (.rt (dI ((newRow less more : Nat) : Int)))
  rw [newRow_eq]
  cases hf : (List.range more.length).find? (nrC less more) with
  | none =>
    have no : ∀ i, i < more.length → nrC less more i = false := fun i hi => by
      have q := List.find?_eq_none.mp hf i (List.mem_range.mpr hi)
      simpa using q
    refine does_seq (does_forE (ds := more.map dLs) (av_cons (dv_var rfl) av_nil) (fun _ => [.imm (dLL less), .imm (dLL more), .any, .any]) rfl fun i d hd => ?_) (does_ret dv_int)
    obtain ⟨row, hrow, rfl⟩ := at_map hd
    exact does_wk (does_ifF ((test i row hrow).is (no i (List.getElem?_eq_some_iff.mp hrow).1)) does_next) (.keep (.keep (.drop (.drop .nil))))
  | some r =>
    obtain ⟨h1, h2, h3⟩ := List.find?_range_eq_some.mp hf
    have hr' : r < more.length := List.mem_range.mp h2
    refine does_seqR (does_forE_rt (ds := more.map dLs) (r := r) (av_cons (dv_var rfl) av_nil) (fun _ => [.imm (dLL less), .imm (dLL more), .any, .any]) rfl (by rw [List.length_map]; exact hr') (fun i d hi hd => ?_) fun d hd => ?_)
    · obtain ⟨row, hrow, rfl⟩ := at_map hd
      exact does_wk (does_ifF ((test i row hrow).is (by have q := h3 i hi; simpa using q)) does_next) (.keep (.keep (.drop (.drop .nil))))
    · obtain ⟨row, hrow, rfl⟩ := at_map hd
      exact does_ifT ((test r row hrow).is h1) (does_ret (dv_var rfl))
end
end U
namespace U
open PySem L2 Evl
section
variable {P : Program} {w : World} {K : PySem.W.Frag} {mg : Str → Option Value} {base : Heap}
/-! ### the two tables -/
def tabSec (less more sec : List (List Int)) : List (List Int) := if newRow less more = sec.length then sec ++ [[]] else sec
def tabStep (row : List Int) (s : List (List Int) × List (List Int)) (i : Nat) : List (List Int) × List (List Int) :=
  let more := putIn s.1 (row.getD i 0)
  let sec := tabSec s.1 more s.2
  (more, sec.set (newRow s.1 more) (sec.getD (newRow s.1 more) [] ++ [(i : Int) + 1]))
def tabAt (row : List Int) (n : Nat) : List (List Int) × List (List Int) := (List.range n).foldl (tabStep row) ([], [])
def tablesM (row : List Int) : List (List Int) × List (List Int) := tabAt row row.length
def tabOk1 (row : List Int) (i : Nat) : Bool :=
  let s := tabAt row i
  let more := putIn s.1 (row.getD i 0)
  decide (s.1.length ≤ 20) && s.1.all (fun r => decide (r.length ≤ 20)) && decide (more.length ≤ s.1.length + 1) && decide (newRow s.1 more < (tabSec s.1 more s.2).length) && decide (s.2.length ≤ 20) && (tabSec s.1 more s.2).all (fun r => decide (r.length ≤ 20))
def tabOk (row : List Int) : Bool := (List.range row.length).all (tabOk1 row)
theorem tabAt_succ (row : List Int) (i : Nat) : tabAt row (i + 1) = tabStep row (tabAt row i) i := by
  unfold tabAt
  rw [List.range_succ, List.foldl_append]
  rfl
abbrev dTT (t : List (List Int) × List (List Int)) : PyData := .tuple [dLL t.1, dLL t.2]
abbrev RTables := RF (fun x : List Int => [dLs x]) (fun x => tabOk x = true) fun x => dTT (tablesM x)
theorem ok_tables (T : Txt K mg) : FnOk P w K mg base CX0 3 T.tables.f T.tables.fd ["row"] (PSp RTables) := by
  refine T.tables.F.ok sc_tables (fun vs H Q E h => psp_len (rf_len fun _ => rfl) h) (fun cdv A outer s H vs Q E hr h => ?_)
  refine ⟨_, (pss_cons (ps_set (i := 1) sc_tables.nd rfl (Or.inl rfl) (pe_lst pa_nil))
      (pss_cons (ps_set (i := 2) sc_tables.nd rfl (Or.inl rfl) (pe_lst pa_nil))
      (pss_cons (ps_for PassesOwn.never rfl (pi_enum (by rfl) T.enumerate (pa_cons (pv 0) pa_nil)) (pg_tup rfl (pgs_cons (pg_name (i := 3) sc_tables.nd rfl (Or.inl rfl)) (pgs_cons (pg_name (i := 4) sc_tables.nd rfl (Or.inl rfl)) pgs_nil)))
        (pss_cons (ps_set (i := 5) sc_tables.nd rfl (Or.inl rfl) (pe_dn T.put_in (ok_put_in T) hr (by decide) (pa_cons (pv 1) (pa_cons (pv 4) pa_nil))))
        (pss_cons (ps_set (i := 6) sc_tables.nd rfl (Or.inl rfl) (pe_dn T.new_row (ok_new_row T) hr (by decide) (pa_cons (pv 1) (pa_cons (pv 5) pa_nil))))
        (pss_cons (ps_if (pt_cmpR op_eq (pv 6) (pe_callB (k_len (K := K) rfl) (by rfl) T.len (by decide +kernel) (pa_cons (pv 2) pa_nil)) (nomark _))
          (pss_one (ps_expr (pe_bm PySem.F.plainAttrs_list PySem.F.slot_list_append PySem.F.type_list_append mt_append (pv 2) (pa_cons (pe_lst pa_nil) pa_nil))))
          pss_nil)
        (pss_cons (ps_expr (pe_bm PySem.F.plainAttrs_list PySem.F.slot_list_append PySem.F.type_list_append mt_append (pe_ix (k_ixL (K := K) rfl) (pv 2) (pv 6) (fun _ _ => rfl)) (pa_cons (pe_op op_add (pv 3) pe_int) pa_nil)))
        (pss_one (ps_set (i := 1) sc_tables.nd rfl (Or.inl rfl) (pv 5))))))))
      (pss_one (ps_ret (pe_tup (pa_cons (pv 1) (pa_cons (pv 2) pa_nil)))))))), ?_⟩
  refine rd_does 6 1 h rfl (rf_len fun _ => rfl) fun G0 H0 ds d hR => ?_
  obtain ⟨row, rfl, hok, rfl⟩ := hR
  intro D σ G H x S k
  -- first = []; second = []
  refine q_dv (nl_lst av_nil (Nat.zero_le _)).dv x.gh S fun v1 G1 H1 x1 r1 => ?_
  have S1 := (S.ext x1).setImm (i := 1) r1
  refine q_nl (nl_lst av_nil (Nat.zero_le _)) x1.gh S1 fun p vs G2 H2 x2 hp gp h2 r2 => ?_
  have S2 := ((S1.ext x2).setAny (i := 2) (s := some (.ref p)))
  cases r2
  have X2 := (x.trans x1).trans x2
  have hx1 := x.trans x1
  have O2 : Own2 H0 G2 H2 p [] := ⟨[], h2, rfl, fun k q ns h => by simp at h, by simp, gp, fresh_back hx1.h hp⟩
  -- the loop
  obtain ⟨v0, hv0, r0⟩ := S2.imm_at (i := 0) rfl
  obtain ⟨a, xs, rfl, ha, ra⟩ := r0.lst_inv
  have hlen : xs.length = row.length := by rw [ra.len, List.length_map]
  obtain rfl := ra.ints
  have g2 : Ex G G2 := Ex.trans x1.g x2.g
  have s2 : ((σ.set 1 (some v1)).set 2 (some (V.ref p)))[2]? = some (some (.ref p)) := List.getElem?_set_self (by rw [List.length_set, S.len]; show 2 < 7; decide)
  refine ⟨_, hv0, a, _, rfl, SqL.of (X2.gh _ _ ha), for_it (walk_enum (K := K) (a := a) (xs := row.map V.int)) (fun i σ' H' => ∃ G', Ext G0 H0 G' H' ∧ Ex G2 G' ∧
      Slots H0 [.imm (dLs row), .imm (dLL (tabAt row i).1), .any, .any, .any, .any, .any] σ' G' H' ∧ σ'[2]? = some (some (.ref p)) ∧ Own2 H0 G' H' p (tabAt row i).2)
    ⟨G2, X2, Ex.refl _, S2, s2, O2⟩ (fun i σ' H' _ ⟨G', x', e', _⟩ => SqL.of (x'.gh _ _ (e' _ _ ha))) (fun i v σ' H' H'' hi ⟨G', x', e', S', s', O'⟩ y => ?_) fun σ' H' ⟨G', x', e', S', s', O'⟩ => ?_⟩
  · have hi' : i < row.length := by rw [List.length_map] at hi; exact hi
    obtain ⟨T', y1, y2, rfl, hT, rfl, f1, f2⟩ := y
    cases f1
    have f2 : (row.map V.int)[i]? = some y2 := f2
    have ey2 : y2 = .int (row.getD i 0) := by
      rw [List.getElem?_map, List.getElem?_eq_getElem hi'] at f2
      cases f2
      rw [getD_some (List.getElem?_eq_getElem hi')]
    subst ey2
    have xT := Ext.hs x'.gh (Ex.new (o := .tup [.int (i : Nat), .int (row.getD i 0)]) hT)
    refine ⟨T', _, rfl, SqT.of upd_same, rfl, _, _, rfl, _, _, rfl, rfl, ?_⟩
    have S3 := ((S'.ext xT).setImm (i := 3) (.int (i : Nat))).setImm (i := 4) (.int (row.getD i 0))
    have O3 := O'.ext xT
    have s3 : ((σ'.set 3 (some (.int (i : Nat)))).set 4 (some (.int (row.getD i 0))))[2]? = some (some (.ref p)) := by
      rw [List.getElem?_set_ne (by decide), List.getElem?_set_ne (by decide)]
      exact s'
    have X3 := x'.trans xT
    have ok := List.all_eq_true.mp hok i (List.mem_range.mpr hi')
    rw [tabAt_succ]
    unfold tabOk1 at ok
    unfold tabStep
    generalize tabAt row i = st at S' S3 O3 ok ⊢
    obtain ⟨first, sec⟩ := st
    simp only [Bool.and_eq_true, decide_eq_true_eq, List.all_eq_true] at ok
    obtain ⟨⟨⟨⟨⟨k1, k2⟩, k3⟩, k4⟩, k5⟩, k6⟩ := ok
    dsimp only at S3 O3 k1 k2 k3 k4 k5 k6 ⊢
    -- more = put_in(first, letter)
    refine q_dv (dv_call (av_cons (dv_var rfl) (av_cons (dv_var rfl) av_nil)) ⟨(first, row.getD i 0), rfl, ⟨k1, k2⟩, rfl⟩) X3.gh S3 fun v5 G5 H5 x5 r5 => ?_
    have r5 : Rp G5 v5 (dLL (putIn first (row.getD i 0))) := r5
    have S5 := (S3.ext x5).setImm (i := 5) r5
    have O5 := O3.ext x5
    have X5 := X3.trans x5
    generalize hmore : putIn first (row.getD i 0) = more at r5 S5 k3 k4 k6 ⊢
    -- at = new_row(first, more)
    refine q_dv (dv_call (av_cons (dv_var rfl) (av_cons (dv_var rfl) av_nil)) ⟨(first, more), rfl, ⟨k1, k3⟩, rfl⟩) X5.gh S5 fun v6 G6 H6 x6 r6 => ?_
    have r6 : Rp G6 v6 (dI (newRow first more : Nat)) := r6
    have S6 := (S5.ext x6).setImm (i := 6) r6
    have O6 := O5.ext x6
    have X6 := X5.trans x6
    have s6 : ((((σ'.set 3 (some (.int (i : Nat)))).set 4 (some (.int (row.getD i 0)))).set 5 (some v5)).set 6 (some v6))[2]? = some (some (.ref p)) := by
      rw [List.getElem?_set_ne (by decide), List.getElem?_set_ne (by decide)]
      exact s3
    have e6 : Ex G2 G6 := Ex.trans e' (Ex.trans x5.g x6.g)
    obtain rfl := r6.int_inv
    generalize hat : newRow first more = at_ at S6 s6 k4 ⊢
    have hat' : newRow first more = at_ := hat
    -- what is done from the second table on, once it has its row
    have rest : ∀ (D' : Ends) (H7 : Hp) (sec' : List (List Int)), (∀ σ2 H2, (∃ G', Ext G0 H0 G' H2 ∧ Ex G2 G' ∧ Slots H0 [.imm (dLs row), .imm (dLL more), .any, .any, .any, .any, .any] σ2 G' H2 ∧ σ2[2]? = some (some (.ref p)) ∧ Own2 H0 G' H2 p ((tabSec first more sec).set at_ ((tabSec first more sec).getD at_ [] ++ [(i : Int) + 1]))) → D'.nx σ2 H2) → sec' = tabSec first more sec → Ext G0 H0 G6 H7 → Slots H0 [.imm (dLs row), .imm (dLL first), .any, .imm (dI i), .imm (dI (row.getD i 0)), .imm (dLL more), .imm (dI (at_ : Nat))] ((((σ'.set 3 (some (.int (i : Nat)))).set 4 (some (.int (row.getD i 0)))).set 5 (some v5)).set 6 (some (.int (at_ : Nat)))) G6 H7 → Own2 H0 G6 H7 p sec' →
        (tSeq (tDrop (tBM K "list" rAppend (tOp (rIxL K) (tVar 2) (tVar 6)) (tCons (tOp (rI0 fun i j => .int (i + j)) (tVar 3) (tC (.int 1))) tNil))) (tAsg (tVar 5) (gName 1))) D'
          ((((σ'.set 3 (some (.int (i : Nat)))).set 4 (some (.int (row.getD i 0)))).set 5 (some v5)).set 6 (some (.int (at_ : Nat)))) H7 := fun D' H7 sec' hD es X7 S7 O7 => by
      subst es
      have hk : (tabSec first more sec)[at_]? = some ((tabSec first more sec).getD at_ []) := by
        rw [List.getElem?_eq_getElem k4, getD_some (List.getElem?_eq_getElem k4)]
      obtain ⟨qs, q, hp7, hq7, hqq, gq, zq, O8⟩ := O7.set (ms := (tabSec first more sec).getD at_ [] ++ [(i : Int) + 1]) hk
      obtain ⟨v6', hv6, r6'⟩ := S7.imm_at (i := 6) rfl
      obtain rfl := r6'.int_inv
      obtain ⟨v3', hv3, r3'⟩ := S7.imm_at (i := 3) rfl
      obtain rfl := r3'.int_inv
      have hq8 : (qs.map V.ref)[at_]? = some (.ref q) := by
        rw [List.getElem?_map, hq7]
        rfl
      refine ⟨_, s6, _, hv6, p, _, _, _, rfl, rfl, SqL.of hp7, atI_nat hq8, Or.inl ⟨rfl, _, SqL.of hqq⟩, _, hv3, _, _, rfl, rfl, q, _, _, rfl, rfl, hqq, ?_, ?_⟩
      · have q8 := k6 _ (List.mem_of_getElem? hk)
        rw [List.length_map]
        exact sz_lt (by omega)
      · have e9 : ((tabSec first more sec).getD at_ []).map V.int ++ [V.int ((i : Nat) + 1)] = ((tabSec first more sec).getD at_ [] ++ [(i : Int) + 1]).map V.int := by
          rw [List.map_append]
          rfl
        rw [e9]
        have X8 := X7.own (o := .lst (((tabSec first more sec).getD at_ [] ++ [(i : Int) + 1]).map V.int)) zq gq
        have S8 : Slots H0 [.imm (dLs row), .imm (dLL first), .any, .imm (dI i), .imm (dI (row.getD i 0)), .imm (dLL more), .imm (dI (at_ : Nat))] ((((σ'.set 3 (some (.int (i : Nat)))).set 4 (some (.int (row.getD i 0)))).set 5 (some v5)).set 6 (some (.int (at_ : Nat)))) G6 (upd H7 q (.lst (((tabSec first more sec).getD at_ [] ++ [(i : Int) + 1]).map V.int))) :=
          S7.noOwn rfl
        obtain ⟨v5', hv5, r5'⟩ := S8.imm_at (i := 5) rfl
        refine ⟨v5', hv5, hD _ _ ⟨G6, X8, e6, ((S8.setImm (i := 1) r5').wk (.keep (.keep (.keep (.drop (.drop (.drop (.drop .nil)))))))), ?_, O8⟩⟩
        rw [List.getElem?_set_ne (by decide)]
        exact s6
    -- if at == len(second): second.append([])
    obtain ⟨v6', hv6, r6'⟩ := S6.imm_at (i := 6) rfl
    obtain rfl := r6'.int_inv
    obtain ⟨qs, hp6, hl6, hqs6, nd6, gp6, h06⟩ := id O6
    refine ⟨_, hv6, _, s6, p, _, rfl, Or.inl (SqL.of hp6), rfl, _, rfl, ?_⟩
    have ed : decide (V.int ((at_ : Nat) : Int) = V.int (((qs.map V.ref).length : Nat) : Int)) = decide (at_ = sec.length) := by
      rw [dec_int, List.length_map, hl6, dec_nat]
    rw [ed]
    by_cases e : at_ = sec.length
    · rw [decide_eq_true e]
      refine iteT ?_
      refine ⟨_, s6, Or.inl ⟨rfl, _, SqL.of hp6⟩, Nat.zero_le _, fun q hq => ?_⟩
      obtain ⟨qs', hp', hl', O7⟩ := O6.snoc X6.gh X6.h hq
      rw [hp6] at hp'
      have eqs : qs.map V.ref = qs'.map V.ref := by
        injection hp' with z
        injection z
      refine ⟨p, _, _, rfl, rfl, (Ex.new hq) _ _ hp6, by rw [List.length_map, hl6]; exact sz_lt (by omega), ?_⟩
      have X7 := (X6.trans (Ext.hs X6.gh (Ex.new (o := .lst []) hq))).own (o := .lst (qs.map V.ref ++ [V.ref q])) h06 gp6
      rw [← eqs] at O7
      exact rest _ _ (sec ++ [[]]) (fun _ _ z => z) (by unfold tabSec; rw [hat', if_pos e]) X7 (S6.noOwn rfl) O7
    · rw [decide_eq_false e]
      refine iteF ?_
      exact rest _ _ sec (fun _ _ z => z) (by unfold tabSec; rw [hat', if_neg e]) X6 S6 O6
  · -- return (first, second)
    rw [List.length_map] at S' O'
    obtain ⟨L, hpL, h0L, gL, neL, rL⟩ := O'.lst
    have XL := x'.stillL h0L gL
    have SL : Slots H0 [.imm (dLs row), .imm (dLL (tabAt row row.length).1), .any, .any, .any, .any, .any] σ' (stillL L G' H') H' := by
      refine ⟨S'.len, fun i sl e => ?_, fun i j q ds es h1 => absurd h1 (noOwn_at rfl i ds)⟩
      obtain ⟨s, hs, k'⟩ := S'.ok i sl e
      refine ⟨s, hs, ?_⟩
      cases sl with
      | imm d =>
        obtain ⟨v, e1, r⟩ := k'
        exact ⟨v, e1, r.mono (stillL_ex gL)⟩
      | any => exact True.intro
      | own ds => exact absurd e (noOwn_at rfl i ds)
    obtain ⟨v1', hv1, r1'⟩ := SL.imm_at (i := 1) rfl
    refine ⟨v1', hv1, _, s', by show 2 ≤ sizeLine; decide, fun q hq => ?_⟩
    have Xq := XL.trans (Ext.new (o := .tup [v1', .ref p]) XL.gh hq)
    refine k _ _ _ Xq (Ex.trans (Ex.trans g2 (Ex.trans e' (stillL_ex gL))) (Ex.new (fresh_back XL.gh hq))) (.tup upd_same (.cons (r1'.mono (Ex.new (fresh_back XL.gh hq))) (.cons ?_ .nil)))
    refine Rp.mono (Ex.new (fresh_back XL.gh hq)) ?_
    exact rL _ fun a m => stillL_in m
end
end U
namespace U
open PySem L2 Evl
section
variable {P : Program} {w : World} {K : PySem.W.Frag} {mg : Str → Option Value} {base : Heap}
abbrev RFas := RF (fun o : Od => [dO o]) (fun o => tabOk o = true) fun o => dTT (tablesM o)
theorem ok_first_and_second (T : Txt K mg) : FnOk P w K mg base CX0 4 T.first_and_second.f T.first_and_second.fd ["order"] (PSp RFas) := by
  refine T.first_and_second.F.ok sc_first_and_second (fun vs H Q E h => psp_len (rf_len fun _ => rfl) h) (fun cdv A outer s H vs Q E hr h => ?_)
  refine ⟨_, (pss_one (ps_ret (pe_dn T.tables (ok_tables T) hr (by decide) (pa_cons (pe_callTy (k_list (K := K) rfl) (by rfl) T.list (by decide +kernel) (pa_cons (pv 0) pa_nil)) pa_nil)))), ?_⟩
  refine rd_does 0 1 h rfl (rf_len fun _ => rfl) fun G0 H0 ds d hR => ?_
  obtain ⟨o, rfl, ho, rfl⟩ := hR
  exact does_ret (dv_call (av_cons (nl_listT (dv_var rfl)).dv av_nil) ⟨o, rfl, ho, rfl⟩)
/-! ### all orders -/
theorem longer_len (n : Nat) : ∀ l : List Od, (longer n l).length ≤ n * l.length
  | [] => by simp [longer]
  | o :: l => by
    have ih := longer_len n l
    have h : (((plain n).filter fun t => !(o.any fun y => decide (y = t))).map fun t => o ++ [t]).length ≤ n := by
      rw [List.length_map]
      refine Nat.le_trans (List.length_filter_le _ _) ?_
      unfold plain
      rw [List.length_map, List.length_range]
      exact Nat.le_refl n
    unfold longer at ih ⊢
    rw [List.flatMap_cons, List.length_append, List.length_cons, Nat.mul_succ]
    omega
theorem longer_snoc (n : Nat) (l : List Od) (o : Od) : longer n (l ++ [o]) = longer n l ++ ((plain n).filter fun t => !(o.any fun y => decide (y = t))).map fun t => o ++ [t] := by
  unfold longer
  rw [List.flatMap_append]
  simp
theorem allF_len : ∀ n, n < 5 → ∀ i, i < 5 → (allF n i).length ≤ 64 ∧ ∀ o, o ∈ allF n i → o.length ≤ 4 := by decide +kernel
abbrev RAll := RF (fun n : Nat => [dI n]) (fun n => n ≤ 4) fun n => dOs (allO n)
theorem ok_all_orders (T : Txt K mg) : FnOk P w K mg base CX0 2 T.all_orders.f T.all_orders.fd ["n"] (PSp RAll) := by
  refine T.all_orders.F.ok sc_all_orders (fun vs H Q E h => psp_len (rf_len fun _ => rfl) h) (fun cdv A outer s H vs Q E hr h => ?_)
  refine ⟨_, (pss_cons (ps_set (i := 1) sc_all_orders.nd rfl (Or.inl rfl) (pe_lst (pa_cons (pe_tup pa_nil) pa_nil)))
      (pss_cons (ps_for PassesOwn.never rfl (pi_range1 (by rfl) T.range (pa_cons (pv 0) pa_nil)) (pg_name (i := 2) sc_all_orders.nd rfl (Or.inl rfl))
        (pss_cons (ps_set (i := 3) sc_all_orders.nd rfl (Or.inl rfl) (pe_lst pa_nil))
        (pss_cons (ps_for PassesOwn.never rfl (kpi_list (K := K) rfl (pv 1)) (pg_name (i := 4) sc_all_orders.nd rfl (Or.inr rfl))
          (pss_one (ps_expr (pe_bm PySem.F.plainAttrs_list PySem.F.slot_list_extend PySem.F.type_list_extend mt_extend (pv 3) (pa_cons (pe_lc (own := [("thing", 5)]) (g := gName 5) rfl sc_all_orders.nd (kpi_tup (K := K) rfl (pe_dn T.plain_order (ok_plain_order T) hr (by decide) (pa_cons (pv 0) pa_nil))) (blkOk_by (N := ["n", "found", "k", "longer", "one", "thing"]) (sc := defScope s_all_orders) (by decide +kernel)) (fun _ _ _ _ _ => (pg_name (i := 5) sc_all_orders.nd rfl (by first | exact Or.inl rfl | exact Or.inr rfl))) (fun _ _ _ _ _ => (pts_one (pt_cmpR (k_niT (K := K) rfl) (pv 5) (pv 4) (by rfl)))) (fun _ _ _ _ _ => (pe_op (k_catT (K := K) rfl) (pv 4) (pe_tup (pa_cons (pv 5) pa_nil))))) pa_nil)))))
        (pss_one (ps_set (i := 1) sc_all_orders.nd rfl (Or.inl rfl) (pv 3))))))
      (pss_one (ps_ret (pv 1))))), ?_⟩
  refine rd_does 5 1 h rfl (rf_len fun _ => rfl) fun G0 H0 ds d hR => ?_
  obtain ⟨n, rfl, hn, rfl⟩ := hR
  have hn : n ≤ 4 := hn
  refine does_seq (does_asg (nl_lst (av_cons (dv_tup av_nil (Nat.zero_le _)) av_nil) (by show 1 ≤ 100000; decide)).dv) ?_
  refine does_seq (does_forR1 (hi := (n : Int)) (ar_cons (dv_var rfl).r ar_nil) ⟨by omega, by omega⟩ (fun i => [.imm (dI n), .imm (dOs (allF n i)), .any, .any, .any, .any]) rfl fun i d hd => ?_) ?_
  · have hi : i < n := by
      have z := (List.getElem?_eq_some_iff.mp hd).1
      rw [rgD_len] at z
      omega
    obtain ⟨hl, hol⟩ := allF_len n (by omega) i (by omega)
    refine does_wk0 (ρ2 := [.imm (dI n), .imm (dOs (allF n i)), .any, .any, .any, .any]) (.keep (.keep (.drop (.keep (.keep (.keep .nil)))))) ?_
    show Does G0 H0 _ _ (.nx [.imm (dI n), .imm (dOs (longer n (allF n i))), .any, .any, .any, .any])
    generalize allF n i = found at hl hol ⊢
    refine does_seq (does_own (nl_lst av_nil (Nat.zero_le _))) ?_
    refine does_seq (does_for (ds := found.map dO) (dv_var rfl) (fun j => [.imm (dI n), .imm (dOs found), .any, .own ((longer n (found.take j)).map dO), .any, .any]) rfl fun j d hd => ?_) ?_
    · obtain ⟨one, ho, rfl⟩ := at_map hd
      have hone : one.length ≤ 4 := hol one (List.mem_of_getElem? ho)
      refine does_wk (does_ext (es := ((((plain n).filter fun t => !(one.any fun y => decide (y = t))).map fun t => one ++ [t]).map dO)) rfl (((nl_lcTX (fe := dI) (xs := plain n) (dv_call (av_cons (dv_var rfl) av_nil) ⟨n, rfl, hn, rfl⟩) (fun t => !(one.any fun y => decide (y = t))) (fun t => dO (one ++ [t])) ?_ (fun t ht => ?_) fun t ht _ => ?_)).is ?_).dv ?_) ?_
      · unfold plain
        rw [List.length_map, List.length_range]
        omega
      · exact tv_cmp (dv_niT (dv_var rfl).r (dv_var rfl).r).r
      · refine (dv_catT (dv_var rfl) (dv_tup (av_cons (dv_var rfl) av_nil) (by show 1 ≤ 100000; decide)) ?_).is ?_
        · rw [List.length_map]
          show one.length + 1 ≤ 100000
          omega
        · show PyData.tuple _ = PyData.tuple ((one ++ [t]).map PyData.int)
          rw [List.map_append]
          rfl
      · rw [List.map_map]
        rfl
      · have h1 := longer_len n (found.take j)
        have h2 : (((plain n).filter fun t => !(one.any fun y => decide (y = t))).map fun t => one ++ [t]).length ≤ 4 := by
          rw [List.length_map]
          refine Nat.le_trans (List.length_filter_le _ _) ?_
          unfold plain
          rw [List.length_map, List.length_range]
          exact hn
        have h3 : (found.take j).length ≤ 64 := Nat.le_trans (by rw [List.length_take]; exact Nat.min_le_right _ _) hl
        have h4 : n * (found.take j).length ≤ 4 * 64 := Nat.mul_le_mul hn h3
        rw [List.length_map, List.length_map]
        omega
      · rw [List.take_add_one, ho]
        show Wk _ [_, _, _, .own ((longer n (found.take j ++ [one])).map dO), _, _]
        rw [longer_snoc, List.map_append]
        exact .keep (.keep (.keep (.keep (.drop (.keep .nil)))))
    · rw [List.length_map, List.take_length]
      refine does_still 3 rfl ?_
      exact does_wk (does_asg (dv_var rfl)) (.keep (.keep (.keep (.drop (.keep (.keep .nil))))))
  · have e : (n : Int).toNat = n := Int.toNat_natCast n
    rw [e]
    exact does_ret (dv_var rfl)
/-! ### refusals that do not come -/
abbrev RLookFew := RF (fun o : Od => [dO o]) (fun o => o.length ≤ 5) fun _ => .none
theorem ok_look_few (T : Txt K mg) : FnOk P w K mg base CX0 1 T.look_few.f T.look_few.fd ["order"] (PSp RLookFew) := by
  refine T.look_few.F.ok sc_look_few (fun vs H Q E h => psp_len (rf_len fun _ => rfl) h) (fun cdv A outer s H vs Q E hr h => ?_)
  refine ⟨_, (pss_one (ps_if (pt_cmpR op_gt (pe_callB (k_len (K := K) rfl) (by rfl) T.len (by decide +kernel) (pa_cons (pv 0) pa_nil)) (pe_glob (v := .int 5) rfl T.MOST_THINGS_kept ⟨_, rfl⟩) (nomark _))
        (pss_one ps_never)
        pss_nil)), ?_⟩
  refine rd_doesN 0 1 h rfl (fun ds d ⟨x, e1, _, e2⟩ => ⟨by rw [e1]; rfl, e2⟩) fun G0 H0 ds d hR => ?_
  obtain ⟨o, rfl, ho, rfl⟩ := hR
  have ho : o.length ≤ 5 := ho
  refine ⟨_, does_ifF ((tv_cmp (dv_ib (f := fun i j => decide (j < i)) (dv_lenT (dv_var rfl).r).r dv_int.r).r).is ?_) does_next⟩
  rw [List.length_map]
  exact decide_eq_false (by omega)
abbrev RLookAt := RF (fun n : Nat => [dI n]) (fun n => n ≤ 4) fun _ => .none
theorem ok_look_at (T : Txt K mg) : FnOk P w K mg base CX0 1 T.look_at.f T.look_at.fd ["n"] (PSp RLookAt) := by
  refine T.look_at.F.ok sc_look_at (fun vs H Q E h => psp_len (rf_len fun _ => rfl) h) (fun cdv A outer s H vs Q E hr h => ?_)
  refine ⟨_, (pss_one (ps_if (pt_cmpR op_gt (pv 0) (pe_glob (v := .int 4) rfl T.MOST_THINGS_hearths ⟨_, rfl⟩) (nomark _))
        (pss_one ps_never)
        pss_nil)), ?_⟩
  refine rd_doesN 0 1 h rfl (fun ds d ⟨x, e1, _, e2⟩ => ⟨by rw [e1]; rfl, e2⟩) fun G0 H0 ds d hR => ?_
  obtain ⟨n, rfl, hn, rfl⟩ := hR
  have hn : n ≤ 4 := hn
  exact ⟨_, does_ifF ((tv_cmp (dv_ib (f := fun i j => decide (j < i)) (dv_var rfl).r dv_int.r).r).is (decide_eq_false (by omega))) does_next⟩
/-! ### a fall of one alone -/
abbrev RHasOther := RF (fun x : Od × Od => [dO x.1, dO x.2]) (fun x => x.1.length ≤ 4 ∧ x.2.length = x.1.length ∧ 1 ≤ x.1.length) fun x => .bool (hasOther x.1 x.2)
theorem ok_has_other_fall (T : Txt K mg) : FnOk P w K mg base CX0 2 T.has_other_fall.f T.has_other_fall.fd ["one", "other"] (PSp RHasOther) := by
  refine T.has_other_fall.F.ok sc_has_other_fall (fun vs H Q E h => psp_len (rf_len fun _ => rfl) h) (fun cdv A outer s H vs Q E hr h => ?_)
  refine ⟨_, (pss_one (ps_ret (pe_callB (k_any (K := K) rfl rfl) (by rfl) T.any (by decide +kernel) (pa_cons (pe_lc (own := [("k", 2)]) (g := gName 2) (tt := tYes) rfl sc_has_other_fall.nd (pi_range2 (by rfl) T.range (pa_cons pe_int (pa_cons (pe_callB (k_len (K := K) rfl) (by rfl) T.len (by decide +kernel) (pa_cons (pv 0) pa_nil)) pa_nil))) (blkOk_by (N := ["one", "other", "k"]) (sc := defScope s_has_other_fall) (by decide +kernel)) (fun _ _ _ _ _ => (pg_name (i := 2) sc_has_other_fall.nd rfl (by first | exact Or.inl rfl | exact Or.inr rfl))) (fun _ _ _ _ _ => pts_nil) (fun _ _ _ _ _ => (pe_and (pe_dn T.is_fall (ok_is_fall T) hr (by decide) (pa_cons (pv 0) (pa_cons (pv 2) pa_nil))) (pe_one (pe_not (pe_dn T.is_fall (ok_is_fall T) hr (by decide) (pa_cons (pv 1) (pa_cons (pv 2) pa_nil)))))))) pa_nil)))), ?_⟩
  refine rd_does 1 2 h rfl (rf_len fun _ => rfl) fun G0 H0 ds d hR => ?_
  obtain ⟨⟨one, other⟩, rfl, ⟨hl, he, h1⟩, rfl⟩ := hR
  have hl : one.length ≤ 4 := hl
  have he : other.length = one.length := he
  have h1 : 1 ≤ one.length := h1
  refine does_ret ((dv_any (bs := (List.range (one.length - 1)).map fun i => fall one (i + 1) && !fall other (i + 1)) ((nl_lcRX (n := one.length - 1) (ar_cons dv_int.r (ar_cons (dv_lenT (dv_var rfl).r).r ar_nil)) (fun _ => true) (fun i => .bool (fall one (i + 1) && !fall other (i + 1))) ?_ ?_ (fun _ _ => tv_yes) fun i hi _ => ?_).r.is ?_)).is ?_)
  · show (((one.map PyData.int).length : Int) - 1).toNat = one.length - 1
    rw [List.length_map]
    omega
  · rw [List.length_map]
    exact ⟨by decide, by decide, by omega, by omega⟩
  · have ei : (1 : Int) + (i : Nat) = ((i + 1 : Nat) : Int) := by omega
    refine dv_and (dv_call (av_cons (dv_var rfl) (av_cons ((dv_var rfl).is (congrArg PyData.int ei)) av_nil)) ⟨(one, i + 1), rfl, ⟨by show 1 ≤ i + 1; omega, by show i + 1 < one.length; omega⟩, rfl⟩).r fun _ => (dv_not (dv_call (av_cons (dv_var rfl) (av_cons ((dv_var rfl).is (congrArg PyData.int ei)) av_nil)) ⟨(other, i + 1), rfl, ⟨by show 1 ≤ i + 1; omega, by show i + 1 < other.length; omega⟩, rfl⟩).r).r
  · rw [filter_all, List.map_map]
    rfl
  · show _ = PyData.bool (hasOther one other)
    unfold hasOther upTo
    rw [List.any_map, List.any_map]
    rfl
end
end U
namespace U
open PySem L2 Evl
/-! ### sorted(..) of data that are alike -/
def rSortedD (K : PySem.W.Frag) : List V → Hp → VK → Prop := fun vs H Q => ∃ (a : Addr) (xs : List V) (ds : List PyData), vs = [.ref a] ∧ SqL K H a xs ∧ DpAll K H xs ds ∧ PySem.W.AllAlike ds ∧ PySem.W.Sortable ds ∧ (∀ d, d ∈ ds → d.depth ≤ 8) ∧
  ∀ (bs : List (V × PyData)) (p : Addr), bs.Perm (xs.zip ds) → bs.map (·.2) = ds.mergeSort (fun a b => !PySem.W.dataLt b a) → H p = none → Q (.ref p) (upd H p (.lst (bs.map (·.1))))
theorem eachR : ∀ {xs : List V} {us : List Value} {ds : List PyData}, Vals xs us → xs.length = ds.length → PySem.W.EachIs (fun (v : Value) (b : V × PyData) => RelV b.1 v) us (xs.zip ds)
  | _, _, [], .nil, _ => .nil
  | _, _, _ :: _, .nil, h => by simp at h
  | _, _, [], .cons _ _, h => by simp at h
  | _, _, d :: ds, .cons r t, h => .cons r (eachR t (by simpa using h))
theorem eachD {h : Heap} : ∀ {us : List Value} {ds : List PyData} {as : List Addr}, ReadsAll h us ds as → PySem.W.EachIs (fun v d => ∃ as, Reads h v d as) us ds
  | _, _, _, .nil => .nil
  | _, _, _, .cons r t => .cons ⟨_, r⟩ (eachD t)
theorem eachK {us : List Value} {F : Value → PyData → Prop} : ∀ {us : List Value} {xs : List V} {ds : List PyData}, PySem.W.EachIs F us ds → xs.length = ds.length → PySem.W.EachIs (fun v (b : V × PyData) => F v b.2) us (xs.zip ds)
  | _, [], [], .nil, _ => .nil
  | _, _ :: _, [], .nil, h => by simp at h
  | _, [], _ :: _, .cons _ _, h => by simp at h
  | _, x :: xs, d :: ds, .cons r t, h => .cons r (eachK (us := []) t (by simpa using h))
theorem valsE : ∀ {us : List Value} {bs : List (V × PyData)}, PySem.W.EachIs (fun (v : Value) (b : V × PyData) => RelV b.1 v) us bs → Vals (bs.map (·.1)) us
  | _, _, .nil => .nil
  | _, _, .cons r t => .cons r (valsE t)
theorem cr_sortedD {X : Cx} {K : PySem.W.Frag} (hK : X.K = K) (hu : X.A.units + 64 < cLine) : CallR X (.builtin "sorted") (rSortedD K) := by
  subst hK
  intro pins s σ H vs us Q I r h
  obtain ⟨a, xs, ds, rfl, hs, hd, hal, hso, hdep, q⟩ := h
  obtain ⟨its, rv, hl, hz⟩ := I.list hs
  obtain ⟨u, rfl, ru⟩ := vals1 r
  obtain rfl : u = Value.ref a := ru
  obtain ⟨as, rd⟩ := Dp.readsAll I ds xs its hd rv
  have hxl : its.length = ds.length := SeqAt.ReadsAll.length ds its as rd
  have hvl := rv.length
  have hxd : xs.length = ds.length := by omega
  have keep : ∀ b o, s.heap.get? b = some o → (PySem.W.sortingHeap (PySem.W.copyHeap s.heap its) (s.heap.objs.size + 1) its).get? b = some o := fun b o e =>
    PySem.W.sortingHeap_old (Nat.ne_of_lt (Nat.lt_succ_of_lt (Heap.lt_size e))) (PySem.W.copyHeap_old e)
  have rd2 := eachD (PyProof.Rows.ReadsAll.keeps keep rd)
  generalize hh : PySem.W.sortingHeap (PySem.W.copyHeap s.heap its) (s.heap.objs.size + 1) its = hp at rd2 keep
  have SA : PySem.W.SortsAt X.prog X.w X.A.in1.in1 { s with heap := hp } (PySem.W.dataKind hp ds) its := PySem.W.SortsAt.data rd2 hal hso fun d hm => by
    have h1 := hdep d hm
    show X.A.units + 1 + 1 + d.depth < cLine
    omega
  have ek := (PySem.W.each_mem rd2)
  refine PySem.W.sorted_vals hl.isList (by rw [hh]; exact SA) (by omega) ?_
  have hE := PySem.W.sortVals_each (rev := false) (R := fun (v : Value) (b : V × PyData) => RelV b.1 v) (κ := PySem.W.dataKind hp ds) (ks := its) (fun b : V × PyData => PySem.W.keyToks b.2) (eachR rv hxd) ((eachK (us := []) ek hxd).mono fun v b ⟨⟨as, r⟩, m⟩ => PySem.W.dataKind_some hal m r)
  generalize hb : (xs.zip ds).mergeSort (PySem.W.sortLe (PySem.W.dataKind hp ds).toKeyOrd false fun b : V × PyData => PySem.W.keyToks b.2) = bs at hE
  have hperm : bs.Perm (xs.zip ds) := by
    rw [← hb]
    exact List.mergeSort_perm _ _
  have hsnd : bs.map (·.2) = ds.mergeSort (fun a b => !PySem.W.dataLt b a) := by
    rw [← hb]
    refine Eq.trans (show _ = ((xs.zip ds).mergeSort fun a b : V × PyData => !PySem.W.dataLt b.2 a.2).map (·.2) from rfl) ?_
    rw [List.map_mergeSort (f := fun b : V × PyData => b.2) (s := fun a b => !PySem.W.dataLt b a) (fun a _ b _ => rfl)]
    congr 1
    exact List.map_snd_zip (by omega)
  obtain ⟨n, hn⟩ := PyProof.Rows.sortedAll_at s.heap its (PySem.W.sortVals (PySem.W.dataKind hp ds) false its its).toArray
  have hbl : bs.length ≤ sizeLine := by
    rw [hperm.length_eq, List.length_zip]
    omega
  exact ⟨.ref (s.heap.objs.size + 1), upd H (s.heap.objs.size + 1) (.lst (bs.map (·.1))), I.laid (t' := s.toks) (fun b o e => PyProof.Rows.sortedAll_old e) (Nat.le_succ _) ⟨by rw [List.length_map]; exact hbl, _, n, valsE hE, hn⟩, rfl,
    q bs _ hperm hsnd (I.hok.fresh (Nat.le_succ _))⟩
end U
namespace U
open PySem L2 Evl
section
variable {α : Type} [DecidableEq α]
def ins (lt : α → α → Bool) (x : α) : List α → List α
  | [] => [x]
  | y :: ys => if lt y x = true then y :: ins lt x ys else x :: y :: ys
def isort (lt : α → α → Bool) : List α → List α
  | [] => []
  | x :: xs => ins lt x (isort lt xs)
def pairB (lt : α → α → Bool) : List α → Bool
  | [] => true
  | x :: xs => xs.all (fun y => !lt y x) && pairB lt xs
def sortOk (lt : α → α → Bool) (xs : List α) : Bool := pairB lt (isort lt xs) && (isort lt xs).all fun a => (isort lt xs).all fun b => lt a b || lt b a || decide (a = b)
theorem ins_perm (lt : α → α → Bool) (x : α) : ∀ l : List α, (ins lt x l).Perm (x :: l)
  | [] => List.Perm.refl _
  | y :: ys => by
    unfold ins
    split
    · exact ((ins_perm lt x ys).cons y).trans (List.Perm.swap x y ys)
    · exact List.Perm.refl _
theorem isort_perm (lt : α → α → Bool) : ∀ l : List α, (isort lt l).Perm l
  | [] => List.Perm.refl _
  | x :: xs => (ins_perm lt x _).trans ((isort_perm lt xs).cons x)
theorem pairB_iff (lt : α → α → Bool) : ∀ l : List α, pairB lt l = true → l.Pairwise fun a b => lt b a = false
  | [], _ => List.Pairwise.nil
  | x :: xs, h => by
    unfold pairB at h
    rw [Bool.and_eq_true, List.all_eq_true] at h
    refine List.Pairwise.cons (fun y hy => ?_) (pairB_iff lt xs h.2)
    have q := h.1 y hy
    simpa using q
theorem sort_eq {f : α → PyData} {lt : α → α → Bool} {xs : List α} (hlt : ∀ a b, PySem.W.dataLt (f a) (f b) = lt a b) (ok : sortOk lt xs = true) :
    (xs.map f).mergeSort (fun a b => !PySem.W.dataLt b a) = (isort lt xs).map f := by
  unfold sortOk at ok
  rw [Bool.and_eq_true, List.all_eq_true] at ok
  obtain ⟨ok1, ok2⟩ := ok
  rw [← List.map_mergeSort (r := fun a b => !lt b a) (f := f) (s := fun a b => !PySem.W.dataLt b a) (fun a _ b _ => by rw [hlt])]
  congr 1
  have T := PySem.W.sortLe_total (PyProof.Rows.listOrd PyProof.Rows.itemOrd) false (fun x : α => PySem.W.keyToks (f x))
  have eT : PySem.W.sortLe (PyProof.Rows.listOrd PyProof.Rows.itemOrd) false (fun x : α => PySem.W.keyToks (f x)) = fun a b => !lt b a := by
    funext a b
    rw [← hlt]
    rfl
  rw [eT] at T
  refine List.Perm.eq_of_pairwise (le := fun a b => (!lt b a) = true) (fun a b ha hb h1 h2 => ?_) (List.pairwise_mergeSort T.trans (fun a b => by rcases T.total a b with q | q <;> simp [q]) _) ((pairB_iff lt _ ok1).imp fun {a b} h => by rw [h]; rfl) ((List.mergeSort_perm _ _).trans (isort_perm lt xs).symm)
  have ha' : a ∈ isort lt xs := (isort_perm lt xs).mem_iff.mpr ((List.mergeSort_perm xs _).mem_iff.mp ha)
  have q := List.all_eq_true.mp (ok2 a ha') b hb
  have h1' : lt b a = false := by simpa using h1
  have h2' : lt a b = false := by simpa using h2
  rw [h1', h2'] at q
  simpa using q
theorem rp_zip {G : Hp} : ∀ {vs : List V} {ds : List PyData}, RpAll G vs ds → ∀ b, b ∈ vs.zip ds → Rp G b.1 b.2
  | _, _, .nil, b, h => by simp at h
  | _, _, .cons r t, b, h => by
    rw [List.zip_cons_cons] at h
    rcases List.mem_cons.mp h with e | h
    · rw [e]
      exact r
    · exact rp_zip t b h
theorem rp_unzip {G : Hp} : ∀ {bs : List (V × PyData)}, (∀ b, b ∈ bs → Rp G b.1 b.2) → RpAll G (bs.map (·.1)) (bs.map (·.2))
  | [], _ => .nil
  | b :: bs, h => .cons (h b List.mem_cons_self) (rp_unzip fun c hc => h c (List.mem_cons.mpr (Or.inr hc)))
theorem nl_sorted {K : PySem.W.Frag} {H0 : Hp} {ρ : Rho} {ta : TE} {f : α → PyData} {lt : α → α → Bool} {xs : List α} (hlt : ∀ a b, PySem.W.dataLt (f a) (f b) = lt a b) (hal : ∀ a b, PySem.W.alike (f a) (f b) = true)
    (hso : PySem.W.Sortable (xs.map f)) (hdep : ∀ x, (f x).depth ≤ 8) (ha : DV H0 ta ρ (.list (xs.map f))) (ok : sortOk lt xs = true) : NL H0 (tCB (rSortedD K) (tCons ta tNil)) ρ ((isort lt xs).map f) := fun σ G H hx S Q q =>
  ha σ G H hx S _ fun v G1 H1 x1 r1 => by
    obtain ⟨a, vs, rfl, h, ra⟩ := r1.lst_inv
    refine ⟨a, vs, xs.map f, rfl, SqL.of (x1.gh _ _ h), RpAll.dp (ra.mono x1.gh), fun d hd d' hd' => ?_, hso, fun d hd => ?_, fun bs p hp hs hn => ?_⟩
    · obtain ⟨x, _, rfl⟩ := List.mem_map.mp hd
      obtain ⟨y, _, rfl⟩ := List.mem_map.mp hd'
      exact hal x y
    · obtain ⟨x, _, rfl⟩ := List.mem_map.mp hd
      exact hdep x
    · rw [sort_eq hlt ok] at hs
      have rr : RpAll G1 (bs.map (·.1)) ((isort lt xs).map f) := by
        rw [← hs]
        exact rp_unzip fun b hb => rp_zip ra b (hp.mem_iff.mp hb)
      exact q p _ G1 _ (x1.trans (Ext.hs x1.gh (Ex.new hn))) (fresh_back x1.h hn) (fresh_back x1.gh hn) upd_same rr
end
/-! ### orders and hearths in order -/
def ltO (a b : List Int) : Bool := PySem.W.listLt a b
def ltH (a b : List (List Int)) : Bool := PySem.W.listLt (a.map PySem.W.Tup.mk) (b.map PySem.W.Tup.mk)
theorem ltO_eq (a b : List Int) : PySem.W.dataLt (dO a) (dO b) = ltO a b := PySem.W.DatumOrd.lt_eq (PySem.W.Tup.mk a) (PySem.W.Tup.mk b)
theorem alO (a b : List Int) : PySem.W.alike (dO a) (dO b) = true := PySem.W.DatumOrd.alike (PySem.W.Tup.mk a) (PySem.W.Tup.mk b)
theorem dOs_toD (a : List (List Int)) : dOs a = PySem.W.Datum.toD (a.map PySem.W.Tup.mk) := by
  show PyData.list (a.map dO) = PyData.list ((a.map PySem.W.Tup.mk).map PySem.W.Datum.toD)
  rw [List.map_map]
  rfl
theorem ltH_eq (a b : List (List Int)) : PySem.W.dataLt (dOs a) (dOs b) = ltH a b := by
  rw [dOs_toD, dOs_toD]
  exact PySem.W.DatumOrd.lt_eq (a.map PySem.W.Tup.mk) (b.map PySem.W.Tup.mk)
theorem alH (a b : List (List Int)) : PySem.W.alike (dOs a) (dOs b) = true := by
  rw [dOs_toD, dOs_toD]
  exact PySem.W.DatumOrd.alike (a.map PySem.W.Tup.mk) (b.map PySem.W.Tup.mk)
theorem soO {xs : List (List Int)} (h : ∀ x, x ∈ xs → x ≠ []) : PySem.W.Sortable (xs.map dO) := Or.inl fun d hd => by
  obtain ⟨x, hx, rfl⟩ := List.mem_map.mp hd
  cases x with
  | nil => exact absurd rfl (h [] hx)
  | cons i r => exact ⟨.int i, r.map .int, rfl⟩
theorem soH (xs : List (List (List Int))) : PySem.W.Sortable (xs.map dOs) := Or.inr fun d hd => by
  obtain ⟨x, hx, rfl⟩ := List.mem_map.mp hd
  exact ⟨(fun e => nomatch e), (fun _ e => nomatch e)⟩
end U
/-! Walks that the layer lacks: enumerate(a tuple), d.items() of a dict with tuple keys. -/
namespace U
open PySem L2 Evl PyProof.Rows
/-! ### enumerate(t), one argument -/
theorem meets_enumerate_new1 {v : Value} {o : Obj} {H : Heap → Prop} (B : Begins v o H) :
    Meets (Builtin.«enumerate.__new__» ⟨[.type "enumerate", v], []⟩) (fun _ R s => H s.heap ∧
      R (.ok (.ret (.ref (s.heap.push o).objs.size))) { s with heap := (s.heap.push o).push { cls := .type "enumerate", data := .fields #[.none, .bool false, .ref s.heap.objs.size, rawInt 0, .none, .none] } }) :=
  .of_wp fun prog w A R s h => by
    obtain ⟨hp, g, d, tk, os⟩ := s; obtain ⟨h1, h⟩ := h
    have hsub := sub_enumerate
    have q1 : ∀ {A' : Around} {E : Value → Shared → Prop} {Q : Value → Shared → Prop}, Q (.ref hp.objs.size) ⟨hp.push o, g, d, tk, os⟩ → wpAny (model prog w) A' (pyIter v) Q E ⟨hp, g, d, tk, os⟩ :=
      fun q => B.iter prog w _ _ ⟨hp, g, d, tk, os⟩ _ h1 q
    wp_walk using q1
    refine wpAny_stack_any fun st => wpAny_pure ?_
    split
    · rename_i c _ _ _ _ _
      cases (c == Value.type "enumerate")
      · wp_walk using q1
        exact ⟨_, rfl, h⟩
      · wp_walk using q1
        exact ⟨_, rfl, h⟩
    · wp_walk using q1
      exact ⟨_, rfl, h⟩
theorem enum_begins1 {prog : Program} {w : World} {A : Around} {E : Value → Shared → Prop} {s : Shared} {v : Value} {o : Obj} {H : Heap → Prop} {Q : Value → Shared → Prop} (B : Begins v o H) (h1 : H s.heap)
    (h : ∀ h', IsEnum h' (s.heap.objs.size + 1) s.heap.objs.size 0 .none → h'.get? s.heap.objs.size = some o → h'.objs.size = s.heap.objs.size + 2 →
      (∀ b o, s.heap.get? b = some o → h'.get? b = some o) → Q (.ref (s.heap.objs.size + 1)) { s with heap := h' }) :
    wpAny (model prog w) A (call (.type "enumerate") [v]) Q E s := by
  refine callType_new PySem.F.called_enumerate (by decide) (PySem.F.typeCall_enumerate_1 _) (PySem.F.newCall_enumerate_1 _) (fun obj => PySem.F.args_object_init_2 obj _) PySem.F.entry_enumerate_new
    (meets_enumerate_new1 B) ⟨h1, ?_⟩
  have hz : (s.heap.push o).objs.size = s.heap.objs.size + 1 := Heap.size_push ..
  show _ ∧ _
  rw [hz]
  have he : IsEnum ((s.heap.push o).push { cls := .type "enumerate", data := .fields #[.none, .bool false, .ref s.heap.objs.size, rawInt 0, .none, .none] }) (s.heap.objs.size + 1) s.heap.objs.size 0 .none := by
    have := Heap.get?_push_size (s.heap.push o) (o := { cls := .type "enumerate", data := .fields #[.none, .bool false, .ref s.heap.objs.size, rawInt 0, .none, .none] }) rfl
    rw [hz] at this; exact this
  refine ⟨⟨_, he, rfl⟩, h _ he (Heap.get?_push_of_some _ (Heap.get?_push_size _ B.free)) (by rw [Heap.size_push, hz]) fun b o x => Heap.get?_push_of_some _ (Heap.get?_push_of_some _ x)⟩
/-- the tuple at a, each item in a new pair -/
def Itet (K : PySem.W.Frag) (a : Addr) : It :=
  ⟨fun i H => ∃ (xs : List V) (x : V), SqT K H a xs ∧ xs[i]? = some x, fun i H v H' => ∃ T x, v = .ref T ∧ H T = none ∧ H' = upd H T (.tup [.int (i : Nat), x]) ∧ ∀ xs, SqT K H a xs → xs[i]? = some x, fun i H => ∃ xs : List V, SqT K H a xs ∧ xs.length ≤ i⟩
theorem turn_enumT {P : Program} {w : World} {K : PySem.W.Frag} {elts : List Expr} {kk : Nat} {tpos : Pos} (a e it : Addr) :
    Turn P w K (.Tuple elts kk tpos) (Itet K a) [e, it] e (fun i h => (∃ old, IsEnum h e it ((i : Nat) : Int) old) ∧ h.IsTupleIter it a i ∧ e ≠ it ∧ a ≠ it ∧ a ≠ e) where
  mem := by simp
  obj := fun i h st b hb => by
    obtain ⟨⟨old, he⟩, ⟨o, ho, hc, hd⟩, _⟩ := st
    have e' : b = e ∨ b = it := by simpa using hb
    rcases e' with z | z
    · rw [z]; exact ⟨_, he, fun v q => nomatch q⟩
    · rw [z]; exact ⟨o, ho, fun v q => by rw [hd] at q; cases q⟩
  keep := fun i h h' st k => let ⟨⟨old, he⟩, hi, hne⟩ := st; ⟨⟨old, k e (by simp) _ he⟩, hi.at fun o q => k it (by simp) o q, hne⟩
  item := by
    intro X hP hw hK hc i pins s σ H E I hf st hg
    subst hP hw hK
    obtain ⟨⟨old, he⟩, hit, hne, hai, hae⟩ := st
    obtain ⟨xs, x, hq, hx⟩ := hg
    obtain ⟨its, rv, p, hz⟩ := I.tuple hq
    obtain ⟨u, hu, ru⟩ := rv.get hx
    have hel : e < s.heap.objs.size := Heap.lt_size he
    have hil : it < s.heap.objs.size := by obtain ⟨_, q, _⟩ := hit; exact Heap.lt_size q
    have hlt : i < its.toArray.size := by
      have q := (List.getElem?_eq_some_iff.mp hu).1
      simpa using q
    refine wpAny_pyNext_enum_itemD (Draws.tuple (prog := X.prog) (w := X.w) (A := X.A.in1) (I.ok.hd hc) it a hai its.toArray) he ⟨hit, p⟩ hlt hne (by simp [hne, Ne.symm hae]) fun u' h' tk hu' ho hit' hT hsz hk => ?_
    have eu : u' = u := by
      have q : its.toArray[i]? = some u' := hu'
      have q2 : its.toArray[i]? = some u := by simpa using hu
      rw [q2] at q
      exact (Option.some.inj q).symm
    subst eu
    refine ⟨_, rfl, wpAny_letOwnedTupleGo_enum (s := { s with heap := h', toks := tk + 1 }) ho fun h'' he' sb => ?_⟩
    have hT2 : h''.get? s.heap.objs.size = some { cls := .type "tuple", data := .seq #[.int i tk, u'] } := (sb.2 _ (Nat.ne_of_gt hel)).trans hT
    have new : ObjOk X.prog X.w (upd H s.heap.objs.size (.tup [.int (i : Nat), x])) h'' s.heap.objs.size (.tup [.int (i : Nat), x]) :=
      ⟨by show 2 ≤ sizeLine; decide, [.int i tk, u'], .cons ⟨_, rfl⟩ (.cons ru .nil), ⟨_, hT2, rfl, _, rfl⟩⟩
    have I1 : Inv X pins σ (upd H s.heap.objs.size (.tup [.int (i : Nat), x])) { s with heap := h'', toks := tk + 1 } :=
      I.turnedNew (ch := [e, it]) (fun b ob hb q => (sb.2 b (fun z => hb (by simp [z]))).trans (hk b ob (fun z => hb (by simp [z])) (fun z => hb (by simp [z])) q)) hf (Nat.le_refl _) new
    refine ⟨.ref s.heap.objs.size, _, I1, rfl, ⟨_, x, rfl, I.hok.fresh (Nat.le_refl _), rfl, fun ys hy => by rw [I.tuple_inj hy hq]; exact hx⟩, ⟨⟨u', ?_⟩, hit'.1.at fun o q => (sb.2 it (Ne.symm hne)).trans q, hne, hai, hae⟩, fun b hb => ?_⟩
    · have e1 : ((i + 1 : Nat) : Int) = (i : Int) + 1 := by omega
      rw [e1]; exact he'
    · have hb' : b < s.heap.objs.size := by
        have e' : b = e ∨ b = it := by simpa using hb
        rcases e' with z | z
        · rw [z]; exact hel
        · rw [z]; exact hil
      rw [upd_ne (Nat.ne_of_lt hb')]
      exact (hf b hb).1
  done := by
    intro X hP hw hK hc i pins s σ H E I hf st hg
    subst hP hw hK
    obtain ⟨⟨old, he⟩, hit, hne, hai, hae⟩ := st
    obtain ⟨xs, hq, hx⟩ := hg
    obtain ⟨its, rv, p, hz⟩ := I.tuple hq
    obtain ⟨f0, f1, f2, f3, f4, f5⟩ := hf it (by simp)
    have hl := rv.length
    have hT : s.TypeIs (.ref e) "enumerate" := ⟨_, he, rfl⟩
    unfold pyNext
    refine wpAny_bind (wpAny_attempt (wpAny_callSpecial?_slot (name := Str.ofString "__next__") hT PySem.F.slot_enumerate_next
      (wpAny_call_entry PySem.F.slot_enumerate_next hT PySem.F.entry_enumerate_next ?_ (PySem.F.args_enumerate_next_1 _))))
    show wpAny _ _ (field (.ref e) 2 >>= _) _ _ _
    refine wpAny_bind (wpAny_field he rfl (x := .ref it) rfl ?_)
    refine wpAny_bind (wpAny_nextOf_tuple_end (I.ok.hd hc) hit p (by simp; omega) fun h' x he' hx' => ?_)
    obtain ⟨o, ho, hco⟩ := hx'
    refine wpAny_bind (wpAny_isInstance (T := "StopIteration") (b := true) ⟨o, ho, hco⟩ isSubtype_stop ?_)
    exact wpAny_pure ⟨rfl, I.turned (t' := s.toks) (fun b o hb q => he' b o hb q) f0 f1 f3 f4 f5⟩
  self := fun A i s Q E st h => let ⟨⟨_, he⟩, _⟩ := st; wpAny_pyIter_enum he h
def iEnumT (K : PySem.W.Frag) (ta : TA) : TI := fun σ H R => ta σ H fun vs H1 => ∃ a xs, vs = [.ref a] ∧ SqT K H1 a xs ∧ R (Itet K a) H1
theorem pi_enumT {X : Cx} {e : Expr} {ta : TA} {p pos tpos : Pos} {elts : List Expr} {kk : Nat} (hg : Gl X "enumerate") (hm : X.mg "enumerate" = none) (ha : PA X [e] ta) (hs : starEach [e] X.env = [(false, eval e X.env)] := by rfl) :
    PI X (.Tuple elts kk tpos) (.Call (.Name "enumerate" p) [e] [] pos) (iEnumT X.K ta) := by
  refine ⟨fun pins s σ H R I h => ?_⟩
  refine Call_ (ld_blt I hg hm boot_enumerate (PyProof.Rows.callWith_type1 (thn (ha.run pos pins s σ H _ I h) fun us s1 ⟨vs, H1, I1, r1, q1⟩ => ?_) hs rfl))
  obtain ⟨a, xs, ex, hq, q⟩ := q1
  subst ex
  cases r1 with
  | cons r rr =>
    cases rr
    cases r
    obtain ⟨its, rv, p', hz⟩ := I1.tuple hq
    have hal : a < s1.heap.objs.size := by obtain ⟨o, ho, _⟩ := p'; exact Heap.lt_size ho
    refine enum_begins1 (begins_tuple a its.toArray) p' fun h' he hit hsz hk => wpAny_pyIter_enum he ?_
    have I2 : Inv X pins σ H1 { s1 with heap := h' } := I1.kept (t' := s1.toks) hk
    refine ⟨s1.heap.objs.size + 1, [s1.heap.objs.size + 1, s1.heap.objs.size], _, _, H1, rfl, I2, turn_enumT a (s1.heap.objs.size + 1) s1.heap.objs.size, ⟨⟨.none, he⟩, ⟨_, hit, rfl, rfl⟩, Nat.succ_ne_self _, Nat.ne_of_lt hal, Nat.ne_of_lt (Nat.lt_succ_of_lt hal)⟩, fun b hb => ?_, q⟩
    have e' : b = s1.heap.objs.size + 1 ∨ b = s1.heap.objs.size := by simpa using hb
    have hle : s1.heap.objs.size ≤ b := by
      rcases e' with z | z
      · rw [z]; exact Nat.le_add_right _ _
      · rw [z]; exact Nat.le_refl _
    exact I1.fpOk hle (I1.hok.fresh hle)
theorem walk_enumT {K : PySem.W.Frag} {a : Addr} {xs : List V} : Walk (Itet K a) xs.length (fun H => SqT K H a xs) (YPair (fun i => some (.int (i : Nat))) (fun i => xs[i]?)) := by
  refine ⟨fun i _ hi q => ⟨xs, xs[i], q, by simp [hi]⟩, fun _ q => ⟨xs, q, Nat.le_refl _⟩, fun i H v H' _ q y => ?_⟩
  obtain ⟨T, x, h1, h2, h3, h4⟩ := y
  exact ⟨T, .int (i : Nat), x, h1, h2, h3, rfl, h4 xs q⟩
end U
namespace U
open PySem L2 Evl PyProof.Rows
/-! ### for k, v in d.items(), keys that are tuples -/
theorem inv_frzT {X : Cx} {pins : List (Addr × Obj)} {σ : L2.St} {H : Hp} {s : Shared} {d : Addr} {o : Obj} {kvs : List (List Key × V)} (I : Inv X pins σ H s) (h : H d = some (.frz o (.dT kvs))) :
    (d == sysModules) = false ∧ ∃ (es : Array DictEntry) (ep : Nat), s.heap.DictRaw d es ep ∧ o.data = .dict es ep ∧ es.size = kvs.length ∧
      ∀ (i : Nat) (k : List Key) (v : V), kvs[i]? = some (k, v) → ∃ (en : DictEntry) (q : Addr), es[i]? = some en ∧ en.key = .ref q ∧ H q = some (.tup (k.map kV)) ∧ RelV v en.val := by
  obtain ⟨hd, z, hs, xs, pr, o', es, ep, ho, hx, hdt, he, _⟩ := I.hok d _ h
  rw [hd] at ho
  cases ho
  refine ⟨hs, es, ep, ⟨_, hd, hx, hdt⟩, hdt, ?_, fun i k v e => ?_⟩
  · have l1 : es.size = xs.length := size_of_entries he
    have l2 : kvs.length = xs.length := Paired.length pr
    omega
  · obtain ⟨b, hb, e1, e2, e3⟩ := paired_get pr e
    have q := entry_at he i
    rw [hb] at q
    exact ⟨_, b.2.1, q, rfl, e2, e3⟩
def Itit (d : Addr) (o : Obj) (kvs : List (List Key × V)) : It :=
  ⟨fun i H => H d = some (.frz o (.dT kvs)) ∧ i < kvs.length, fun i H x H' => ∃ T k v q, kvs[i]? = some (k, v) ∧ x = .ref T ∧ H T = none ∧ H q = some (.tup (k.map kV)) ∧ H' = upd H T (.tup [.ref q, v]), fun i H => H d = some (.frz o (.dT kvs)) ∧ kvs.length ≤ i⟩
theorem turn_itemsT {P : Program} {w : World} {K : PySem.W.Frag} {d : Addr} {o : Obj} {es : Array DictEntry} {ep : Nat} {kvs : List (List Key × V)} {elts : List Expr} {kk : Nat} {tpos : Pos} (it : Addr) (hod : o.data = .dict es ep) :
    Turn P w K (.Tuple elts kk tpos) (Itit d o kvs) [it] it (fun i h => ∃ ok ov, IsItemIter h it d i kvs.length ep ok ov) where
  mem := by simp
  obj := fun i h st b hb => by
    have e : b = it := by simpa using hb
    subst e
    obtain ⟨ok, ov, e⟩ := st
    exact ⟨_, e, fun v z => nomatch z⟩
  keep := fun i h h' st k => let ⟨ok, ov, e⟩ := st; ⟨ok, ov, k it (by simp) _ e⟩
  item := by
    intro X hP hw hK hc i pins s σ H E I hf st hg
    subst hP hw hK
    obtain ⟨hd, hi⟩ := hg
    obtain ⟨hs, es', ep', hraw, hdt, hsz, ent⟩ := inv_frzT I hd
    obtain ⟨rfl, rfl⟩ := dict_ep hod hdt
    obtain ⟨⟨k, v⟩, hkv⟩ : ∃ p, kvs[i]? = some p := ⟨kvs[i], List.getElem?_eq_getElem hi⟩
    obtain ⟨en, q, hen, hkey, hq, hv⟩ := ent i k v hkv
    obtain ⟨ok, ov, he⟩ := st
    rw [← hsz] at he
    have hlt : it < s.heap.objs.size := Heap.lt_size he
    have hie : i < es'.size := by omega
    have hen2 : es'[i] = en := by
      rw [Array.getElem?_eq_getElem hie] at hen
      exact Option.some.inj hen
    refine wpAny_pyNext_items_item_raw he hraw hie fun h' ho hT hz hk => ?_
    rw [hen2, hkey] at ho hT
    refine ⟨_, rfl, wpAny_letOwnedTupleGo_items (s := { s with heap := h' }) ho fun h'' he' sb => ?_⟩
    have hT2 : h''.get? s.heap.objs.size = some { cls := .type "tuple", data := .seq #[.ref q, en.val] } := (sb.2 _ (Nat.ne_of_gt hlt)).trans hT
    have new : ObjOk X.prog X.w (upd H s.heap.objs.size (.tup [.ref q, v])) h'' s.heap.objs.size (.tup [.ref q, v]) :=
      ⟨by show 2 ≤ sizeLine; decide, [.ref q, en.val], .cons rfl (.cons hv .nil), ⟨_, hT2, rfl, _, rfl⟩⟩
    have I1 : Inv X pins σ (upd H s.heap.objs.size (.tup [.ref q, v])) { s with heap := h'' } :=
      I.turnedNew (t' := s.toks) (ch := [it]) (fun b ob hb e => (sb.2 b (by simpa using hb)).trans (hk b ob (by simpa using hb) e)) hf (Nat.le_refl _) new
    refine ⟨.ref s.heap.objs.size, _, I1, rfl, ⟨_, k, v, q, hkv, rfl, I.hok.fresh (Nat.le_refl _), hq, rfl⟩, ⟨.ref q, en.val, ?_⟩, fun b hb => ?_⟩
    · rw [← hsz]; exact he'
    · have e : b = it := by simpa using hb
      rw [e, upd_ne (Nat.ne_of_lt hlt)]
      exact (hf it (by simp)).1
  done := by
    intro X hP hw hK hc i pins s σ H E I hf st hg
    subst hP hw hK
    obtain ⟨hd, hi⟩ := hg
    obtain ⟨f0, f1, f2, f3, f4, f5⟩ := hf it (by simp)
    obtain ⟨hs, es', ep', hraw, hdt, hsz, ent⟩ := inv_frzT I hd
    obtain ⟨rfl, rfl⟩ := dict_ep hod hdt
    obtain ⟨ok, ov, he⟩ := st
    rw [← hsz] at he
    exact wpAny_pyNext_items_end_raw (I.ok.hd hc) he hraw (by omega) fun h' eb => ⟨rfl, I.turned (t' := s.toks) (fun b ob hb e => eb b ob hb e) f0 f1 f3 f4 f5⟩
  self := fun A i s Q E st h => let ⟨_, _, e⟩ := st; PySem.W.kcp_self e h
def iItemsT (td : TE) : TI := fun σ H R => td σ H fun x H1 => ∃ d o kvs, x = .ref d ∧ H1 d = some (.frz o (.dT kvs)) ∧ R (Itit d o kvs) H1
theorem pi_itemsT {X : Cx} {e : Expr} {td : TE} {apos cpos : Pos} {elts : List Expr} {kk : Nat} {tpos : Pos} (he : PE X e td) (hbase : attributeBase e "items" X.env (eval e X.env) = eval e X.env := by rfl) (hline : (apos.endLine == cpos.line) = true := by rfl) :
    PI X (.Tuple elts kk tpos) (.Call (.Attribute e "items" apos) [] [] cpos) (iItemsT td) := by
  refine ⟨fun pins s σ H R I h => ?_⟩
  refine wpAny_Call_method (T := "dict") (id := "dict.items") hbase rfl hline PySem.F.plainAttrs_dict PySem.F.slot_dict_items PySem.F.type_dict_items (thn (he.run pins s σ H _ I h) fun u s1 ⟨x, H1, I1, rx, d, o, kvs, ex, hd, q⟩ => ?_)
  subst ex
  obtain rfl : u = Value.ref d := rx
  obtain ⟨hs, es, ep, hraw, hdt, hsz, ent⟩ := inv_frzT I1 hd
  have htp : s1.TypeIs (.ref d) "dict" := hraw.typeIs
  refine ⟨htp, ?_, ?_⟩
  · obtain ⟨o', ho, hx, _⟩ := hraw
    intro a ea
    cases ea
    exact ⟨o', ho, by first | exact hx.2 | exact hx.2.1⟩
  have I2 : Inv X pins σ H1 { s1 with heap := s1.heap.push { cls := .type "dict_items", data := .fields #[.ref d] } } := I1.kept (t' := s1.toks) fun b ob q => Heap.get?_push_of_some _ q
  have fin : wpAny (model X.prog X.w) X.A (pyIter (.ref s1.heap.objs.size)) (PIE X pins σ (.Tuple elts kk tpos) R) X.xe { s1 with heap := s1.heap.push { cls := .type "dict_items", data := .fields #[.ref d] } } := by
    refine wpAny_pyIter_items_raw (d := d) ⟨_, Heap.get?_push_size _ rfl, rfl, rfl⟩ (hraw.at fun o e => Heap.get?_push_of_some _ e) (pi_one (tk := s1.toks) I2 _ (turn_itemsT _ hdt) ⟨.none, .none, ?_⟩ q)
    rw [hsz]
    exact Heap.get?_push_size _ rfl
  show wpAny _ _ (callWith cpos (.builtin "dict.items") [.ref d] [] []) _ X.xe s1
  exact method_meetsIn PySem.F.slot_dict_items PySem.F.entry_dict_items rfl (PySem.evalArgs_none ⟨rfl, htp, PySem.F.args_dict_items_1 _, _, meets_dict_items_raw d hs, ⟨es, ep, hraw⟩, fin⟩)
theorem walk_itemsT {d : Addr} {o : Obj} {kvs : List (List Key × V)} : Walk (Itit d o kvs) kvs.length (fun H => H d = some (.frz o (.dT kvs)))
    (fun i H x H' => ∃ T k v q, kvs[i]? = some (k, v) ∧ x = .ref T ∧ H T = none ∧ H q = some (.tup (k.map kV)) ∧ H' = upd H T (.tup [.ref q, v])) :=
  ⟨fun _ _ hi q => ⟨q, hi⟩, fun _ q => ⟨q, Nat.le_refl _⟩, fun _ _ _ _ _ _ y => y⟩
end U
namespace U
open PySem L2 Evl PyProof.Rows
/-! ### {k: v}, k a tuple -/
def tDispT1 (tk tv : TE) : TE := fun σ H Q => ∀ p, H p = none → tk σ (upd H p (.dT [])) fun x H1 => tv σ H1 fun v H2 => H2 p = some (.dT []) ∧ ∃ (b : Addr) (k : List Key), x = .ref b ∧ H2 b = some (.tup (k.map kV)) ∧ Q (.ref p) (upd H2 p (.dT [(k, v)]))
theorem pe_dispT1 {X : Cx} {pos : Pos} {k v : Expr} {tk tv : TE} (hu : X.A.units + 1 < cLine) (hk : PE X k tk) (hv : PE X v tv) : PE X (.Dict [some k] [v] pos) (tDispT1 tk tv) := by
  refine ⟨fun pins s σ H Q I q => ?_⟩
  have hn := I.hok.fresh (Nat.le_refl s.heap.objs.size)
  have I1 := I.laid (a := s.heap.objs.size) (o := .dT []) (h' := s.heap.push { cls := .type "dict", data := .dict #[] }) (t' := s.toks) (fun _ _ q => Heap.get?_push_of_some _ q) (Nat.le_refl _) (dt_empty s.heap I.big)
  have q1 := q _ hn
  have hz : (evalEachOpt [some k] X.env).zip ((evalEach [v] X.env).map fun v => do let x ← v; standAt pos; pure x) = (pairTrees [some k] [v] X.env pos).map fun p => (some p.1, p.2) := zip_pairTrees [some k] [v] X.env pos rfl rfl
  rw [arm_eval_Dict, hz, dictDisplay_pairs (pairTrees [some k] [v] X.env pos) (by unfold pairTrees; exact fun z => nomatch z) (by show 1 < 17; decide)]
  refine wpAny_bind (wpAny_standAt (wpAny_bind (wpAny_subDictH (knd := tupleKind (mixKind X.prog X.w)) (Q := fun d s' => wpAny (model X.prog X.w) X.A (pure (Value.ref d)) (EP X pins σ Q) X.xe s') (show X.A.units < cLine by omega) (by show 1 ≤ 15; decide) ?_)))
  have pp := pps_cons (X := X) (pos := pos) hk hv (pps_nil (X := X) (pos := pos))
  refine thn (pp.run pins _ σ _ (fun ps H2 => match ps with
    | [(x, v)] => H2 s.heap.objs.size = some (.dT []) ∧ ∃ (b : Addr) (k : List Key), x = .ref b ∧ H2 b = some (.tup (k.map kV)) ∧ Q (.ref s.heap.objs.size) (upd H2 s.heap.objs.size (.dT [(k, v)]))
    | _ => False) I1 q1) fun ws s2 ⟨ps, H2, I2, rel, q2⟩ => ?_
  match ps, rel, q2 with
  | [(x, y)], .cons (b := (wk, wv)) ⟨r1, r2⟩ .nil, q2 =>
    obtain ⟨hp, b, kk, rfl, hb, q3⟩ := q2
    cases r1
    obtain ⟨z, hd, xs, rel0, dd⟩ := dt_of I2.hok hp
    cases rel0
    refine ⟨[(kk, b, wv)], ⟨rfl, rfl, key_of I2.hok hb, True.intro⟩, dd, fun h' tk' dd' hs => wpAny_pure ?_⟩
    obtain ⟨o, es, ep, ho, hx, hdt, he, his, hnd⟩ := dd'
    have npb : b ≠ s.heap.objs.size := ne_of hb hp (fun z => nomatch z)
    have new : ObjOk X.prog X.w (upd H2 s.heap.objs.size (.dT [(kk, y)])) h' s.heap.objs.size (.dT [(kk, y)]) :=
      ⟨by show 1 ≤ sizeLine; decide, hd, [(kk, b, wv)], .cons ⟨rfl, by rw [upd_ne npb]; exact hb, r2⟩ .nil, o, es, ep, ho, hx, hdt, he, hnd⟩
    exact ⟨.ref s.heap.objs.size, _, d_write I2 (by rw [hp]; exact True.intro) hs ⟨_, ho⟩ new, rfl, q3⟩
end U
namespace U
open PySem L2 Evl PyProof.Rows
theorem upd_id {H : Hp} {d : Addr} {o : HO} (h : H d = some o) : upd H d o = H := by
  funext b
  unfold upd
  split
  · rename_i e
    rw [e, h]
  · rfl
/-- the iterator locks its dict -/
def iItemsTL (td : TE) : TI := fun σ H R => td σ H fun x H1 => ∃ d kvs, x = .ref d ∧ Rd H1 d (.dT kvs) ∧ ∀ od, H1 d = some (.dT kvs) ∨ H1 d = some (.frz od (.dT kvs)) → R (Itit d od kvs) (upd H1 d (.frz od (.dT kvs)))
theorem pi_itemsTL {X : Cx} {e : Expr} {td : TE} {apos cpos : Pos} {elts : List Expr} {kk : Nat} {tpos : Pos} (he : PE X e td) (hbase : attributeBase e "items" X.env (eval e X.env) = eval e X.env := by rfl) (hline : (apos.endLine == cpos.line) = true := by rfl) :
    PI X (.Tuple elts kk tpos) (.Call (.Attribute e "items" apos) [] [] cpos) (iItemsTL td) := by
  refine ⟨fun pins s σ H R I h => ?_⟩
  refine wpAny_Call_method (T := "dict") (id := "dict.items") hbase rfl hline PySem.F.plainAttrs_dict PySem.F.slot_dict_items PySem.F.type_dict_items (thn (he.run pins s σ H _ I h) fun u s1 ⟨x, H0, I0, rx, d, kvs, ex, hrd, q0⟩ => ?_)
  subst ex
  obtain rfl : u = Value.ref d := rx
  obtain ⟨o, H1, I1, hd, q⟩ : ∃ (o : Obj) (H1 : Hp), Inv X pins σ H1 s1 ∧ H1 d = some (.frz o (.dT kvs)) ∧ R (Itit d o kvs) H1 := by
    rcases hrd with hp | ⟨od, hf⟩
    · obtain ⟨od, I1⟩ := I0.lock hp True.intro
      exact ⟨od, _, I1, upd_same, q0 od (Or.inl hp)⟩
    · have q := q0 od (Or.inr hf)
      rw [upd_id hf] at q
      exact ⟨od, H0, I0, hf, q⟩
  obtain ⟨hs, es, ep, hraw, hdt, hsz, ent⟩ := inv_frzT I1 hd
  have htp : s1.TypeIs (.ref d) "dict" := hraw.typeIs
  refine ⟨htp, ?_, ?_⟩
  · obtain ⟨o', ho, hx, _⟩ := hraw
    intro a ea
    cases ea
    exact ⟨o', ho, by first | exact hx.2 | exact hx.2.1⟩
  have I2 : Inv X pins σ H1 { s1 with heap := s1.heap.push { cls := .type "dict_items", data := .fields #[.ref d] } } := I1.kept (t' := s1.toks) fun b ob q => Heap.get?_push_of_some _ q
  have fin : wpAny (model X.prog X.w) X.A (pyIter (.ref s1.heap.objs.size)) (PIE X pins σ (.Tuple elts kk tpos) R) X.xe { s1 with heap := s1.heap.push { cls := .type "dict_items", data := .fields #[.ref d] } } := by
    refine wpAny_pyIter_items_raw (d := d) ⟨_, Heap.get?_push_size _ rfl, rfl, rfl⟩ (hraw.at fun o e => Heap.get?_push_of_some _ e) (pi_one (tk := s1.toks) I2 _ (turn_itemsT _ hdt) ⟨.none, .none, ?_⟩ q)
    rw [hsz]
    exact Heap.get?_push_size _ rfl
  show wpAny _ _ (callWith cpos (.builtin "dict.items") [.ref d] [] []) _ X.xe s1
  exact method_meetsIn PySem.F.slot_dict_items PySem.F.entry_dict_items rfl (PySem.evalArgs_none ⟨rfl, htp, PySem.F.args_dict_items_1 _, _, meets_dict_items_raw d hs, ⟨es, ep, hraw⟩, fin⟩)
def iItemsL (td : TE) : TI := fun σ H R => td σ H fun x H1 => ∃ d kvs, x = .ref d ∧ Rd H1 d (.dK kvs) ∧ ∀ od, H1 d = some (.dK kvs) ∨ H1 d = some (.frz od (.dK kvs)) → R (Iti d od kvs) (upd H1 d (.frz od (.dK kvs)))
theorem pi_itemsL {X : Cx} {e : Expr} {td : TE} {apos cpos : Pos} {elts : List Expr} {kk : Nat} {tpos : Pos} (he : PE X e td) (hbase : attributeBase e "items" X.env (eval e X.env) = eval e X.env := by rfl) (hline : (apos.endLine == cpos.line) = true := by rfl) :
    PI X (.Tuple elts kk tpos) (.Call (.Attribute e "items" apos) [] [] cpos) (iItemsL td) := by
  refine ⟨fun pins s σ H R I h => ?_⟩
  refine wpAny_Call_method (T := "dict") (id := "dict.items") hbase rfl hline PySem.F.plainAttrs_dict PySem.F.slot_dict_items PySem.F.type_dict_items (thn (he.run pins s σ H _ I h) fun u s1 ⟨x, H0, I0, rx, d, kvs, ex, hrd, q0⟩ => ?_)
  subst ex
  obtain rfl : u = Value.ref d := rx
  obtain ⟨o, H1, I1, hd, q⟩ : ∃ (o : Obj) (H1 : Hp), Inv X pins σ H1 s1 ∧ H1 d = some (.frz o (.dK kvs)) ∧ R (Iti d o kvs) H1 := by
    rcases hrd with hp | ⟨od, hf⟩
    · obtain ⟨od, I1⟩ := I0.lock hp True.intro
      exact ⟨od, _, I1, upd_same, q0 od (Or.inl hp)⟩
    · have q := q0 od (Or.inr hf)
      rw [upd_id hf] at q
      exact ⟨od, H0, I0, hf, q⟩
  obtain ⟨hs, hgd, hx, es, ep, vs, hdt, hsz, kv, hm⟩ := I1.frzK hd
  have hl : kvs.length = vs.length := Paired.length kv
  refine ⟨hm.dictOf.typeIs, hm.dictOf.mapOf.noDict, ?_⟩
  have I2 : Inv X pins σ H1 { s1 with heap := s1.heap.push { cls := .type "dict_items", data := .fields #[.ref d] } } := I1.kept (t' := s1.toks) fun b ob q => Heap.get?_push_of_some _ q
  have fin : wpAny (model X.prog X.w) X.A (pyIter (.ref s1.heap.objs.size)) (PIE X pins σ (.Tuple elts kk tpos) R) X.xe { s1 with heap := s1.heap.push { cls := .type "dict_items", data := .fields #[.ref d] } } := by
    refine wpAny_pyIter_items (d := d) (knd := mixKind X.prog X.w) ⟨_, Heap.get?_push_size _ rfl, rfl, rfl⟩ (hm.push _) (pi_one (tk := s1.toks) I2 _ (turn_items _ hdt) ⟨.none, .none, ?_⟩ q)
    rw [hl]
    exact Heap.get?_push_size _ rfl
  show wpAny _ _ (callWith cpos (.builtin "dict.items") [.ref d] [] []) _ X.xe s1
  exact method_meetsIn PySem.F.slot_dict_items PySem.F.entry_dict_items rfl (PySem.evalArgs_none ⟨rfl, hm.dictOf.typeIs, PySem.F.args_dict_items_1 _, _, meets_dict_items (mixKind X.prog X.w) d hs, ⟨vs, hm.dictOf⟩, fin⟩)
/-- behind the statement a lock that it took is taken off, if one wants -/
def tUnl (t : TS) : TS := fun D σ H => t { D with nx := fun σ' H' => D.nx σ' H' ∨ ∃ d od u, (∀ o' u', H d ≠ some (.frz o' u')) ∧ H' d = some (.frz od u) ∧ D.nx σ' (upd H' d u) } σ H
theorem ps_unl {X : Cx} {st : Stmt} {t : TS} (h : PS X st t) : PS X st (tUnl t) := by
  refine ⟨fun pins s σ H D I hw => ?_⟩
  refine thn (h.run pins s σ _ _ I hw) fun f s1 q => ?_
  cases f with
  | next =>
    obtain ⟨σ', H', I2, q⟩ := q
    rcases q with q | ⟨d, od, u, hn, e, q⟩
    · exact ⟨σ', H', I2, q⟩
    · exact ⟨σ', _, I2.unlock e fun o' u' z => hn o' u' (I.base.frzs d o' u' z), q⟩
  | brk => exact q
  | cont => exact q
  | ret v => exact q
end U
namespace U
open PySem L2 Evl
/-! ### polynomials and sums as dicts -/
def ko (o : Od) : List Key := o.map Sum.inl
theorem ko_kV (o : Od) : (ko o).map kV = o.map V.int := by
  unfold ko
  rw [List.map_map]
  rfl
theorem ko_inj {a b : Od} (h : ko a = ko b) : a = b := by
  have e : (ko a).map kV = (ko b).map kV := by rw [h]
  rw [ko_kV, ko_kV] at e
  exact (List.map_inj_right (fun x y h => V.int.inj h)).mp e
def encP (p : Poly) : List (Key × V) := p.map fun e => (Sum.inl e.1, V.int e.2)
def RpP (G : Hp) (v : V) (p : Poly) : Prop := ∃ r, v = .ref r ∧ Rd G r (.dK (encP p))
abbrev SmIs (G : Hp) : List (List Key × V) → Sm → Prop := Paired fun a b => a.1 = ko b.1 ∧ RpP G a.2 b.2
def RpS (G : Hp) (v : V) (s : Sm) : Prop := ∃ q kvs, v = .ref q ∧ Rd G q (.dT kvs) ∧ SmIs G kvs s
theorem Rd.ex {H H' : Hp} {a : Addr} {u : HO} (e : Ex H H') (h : Rd H a u) : Rd H' a u := ex_rd e h
theorem Rd.inj {H : Hp} {a : Addr} {u u' : HO} (h : Rd H a u) (h' : Rd H a u') (hu : Mut (some u)) (hu' : Mut (some u')) : u = u' := by
  rcases h with h | ⟨o, h⟩ <;> rcases h' with h' | ⟨o', h'⟩
  · rw [h] at h'
    exact Option.some.inj h'
  · rw [h] at h'
    cases h'
    exact hu.elim
  · rw [h] at h'
    cases h'
    exact hu'.elim
  · rw [h] at h'
    cases h'
    rfl
theorem RpP.mono {G G' : Hp} {v : V} {p : Poly} (e : Ex G G') (h : RpP G v p) : RpP G' v p := let ⟨r, a, b⟩ := h; ⟨r, a, Rd.ex e b⟩
theorem SmIs.mono {G G' : Hp} {kvs : List (List Key × V)} {s : Sm} (e : Ex G G') (h : SmIs G kvs s) : SmIs G' kvs s := Paired.mapP h fun _ _ z => ⟨z.1, z.2.mono e⟩
theorem RpS.mono {G G' : Hp} {v : V} {s : Sm} (e : Ex G G') (h : RpS G v s) : RpS G' v s := let ⟨q, kvs, a, b, c⟩ := h; ⟨q, kvs, a, Rd.ex e b, c.mono e⟩
section
variable {κ β : Type} [DecidableEq κ]
theorem getK_nil {k : κ} : getK ([] : List (κ × β)) k = none := rfl
theorem getK_pos {p : κ × β} {r : List (κ × β)} {k : κ} (e : p.1 = k) : getK (p :: r) k = some p.2 := by simp [getK, List.find?_cons, e]
theorem getK_neg {p : κ × β} {r : List (κ × β)} {k : κ} (e : ¬ p.1 = k) : getK (p :: r) k = getK r k := by simp [getK, List.find?_cons, e]
theorem getK_any (k : κ) : ∀ kvs : List (κ × β), (kvs.any fun kv => decide (kv.1 = k)) = (getK kvs k).isSome
  | [] => rfl
  | p :: r => by
    rw [List.any_cons]
    by_cases e : p.1 = k
    · simp only [getK_pos e, decide_eq_true e, Bool.true_or, Option.isSome_some]
    · rw [getK_neg e, decide_eq_false e, Bool.false_or]
      exact getK_any k r
end
theorem inl_inj {a b : Int} : ((Sum.inl a : Key) = Sum.inl b) ↔ a = b := ⟨fun e => Sum.inl.inj e, fun e => by rw [e]⟩
theorem val_encP (p : Poly) (k : Int) : valV (encP p) (Sum.inl k) = (getK p k).map V.int := by
  induction p with
  | nil => rfl
  | cons e r ih =>
    show valV ((Sum.inl e.1, V.int e.2) :: encP r) (Sum.inl k) = _
    by_cases h : e.1 = k
    · rw [getK_pos h, valV_pos (p := (Sum.inl e.1, V.int e.2)) (inl_inj.mpr h)]
      rfl
    · rw [getK_neg h, valV_neg (p := (Sum.inl e.1, V.int e.2)) (fun z => h (inl_inj.mp z)), ih]
theorem put_encP (p : Poly) (k n : Int) : putK (encP p) (Sum.inl k) (V.int n) = encP (putKK p k n) := by
  have ha : ((encP p).any fun kv => decide (kv.1 = (Sum.inl k : Key))) = (p.any fun kv => decide (kv.1 = k)) := by
    unfold encP
    rw [List.any_map]
    congr 1
    funext e
    exact decide_eq_decide.mpr inl_inj
  unfold putK putKK
  rw [ha]
  split
  · unfold encP
    rw [List.map_map, List.map_map]
    refine List.map_congr_left fun e _ => ?_
    show (if (Sum.inl e.1 : Key) = Sum.inl k then ((Sum.inl e.1 : Key), V.int n) else (Sum.inl e.1, V.int e.2)) = _
    by_cases h : e.1 = k
    · rw [if_pos (inl_inj.mpr h)]
      show _ = ((Sum.inl (if e.1 = k then (e.1, n) else e).1 : Key), V.int (if e.1 = k then (e.1, n) else e).2)
      rw [if_pos h]
    · rw [if_neg (fun z => h (inl_inj.mp z))]
      show _ = ((Sum.inl (if e.1 = k then (e.1, n) else e).1 : Key), V.int (if e.1 = k then (e.1, n) else e).2)
      rw [if_neg h]
  · unfold encP
    rw [List.map_append]
    rfl
theorem encP_len (p : Poly) : (encP p).length = p.length := List.length_map _
/-- what a paired dict has at a key -/
theorem paired_val {F : V → Poly → Prop} {kvs : List (List Key × V)} {s : Sm} (h : Paired (fun a b => a.1 = ko b.1 ∧ F a.2 b.2) kvs s) (o : Od) :
    (getK s o = none ∧ valV kvs (ko o) = none) ∨ ∃ p v, getK s o = some p ∧ valV kvs (ko o) = some v ∧ F v p := by
  induction h with
  | nil => exact Or.inl ⟨rfl, rfl⟩
  | @cons a b l1 l2 hab t ih =>
    by_cases e : b.1 = o
    · refine Or.inr ⟨b.2, a.2, getK_pos e, valV_pos (by rw [hab.1, e]), hab.2⟩
    · have e' : ¬ a.1 = ko o := fun z => e (ko_inj (by rw [← hab.1, z]))
      rw [getK_neg e, valV_neg e']
      exact ih
theorem paired_len {F : V → Poly → Prop} {kvs : List (List Key × V)} {s : Sm} (h : Paired (fun a b => a.1 = ko b.1 ∧ F a.2 b.2) kvs s) : kvs.length = s.length := Paired.length h
end U
namespace U
open PySem L2 Evl
/-! ### a sum of one's own -/
def OwnP (Hb H : Hp) (v : V) (pl : Poly) : Prop := ∃ r, v = .ref r ∧ H r = some (.dK (encP pl)) ∧ Hb r = none
abbrev OwnK (Hb H : Hp) : List (List Key × V) → Sm → Prop := Paired fun a b => a.1 = ko b.1 ∧ OwnP Hb H a.2 b.2
structure OwnS (Hb H : Hp) (p : Addr) (kvs : List (List Key × V)) (s : Sm) : Prop where
  at_ : H p = some (.dT kvs)
  nb : Hb p = none
  ks : OwnK Hb H kvs s
  nv : (kvs.map (·.2)).Nodup
  nk : (s.map (·.1)).Nodup
theorem OwnK.mono {Hb H H' : Hp} {kvs : List (List Key × V)} {s : Sm} (h : OwnK Hb H kvs s) (e : ∀ r ps, H r = some (.dK ps) → Hb r = none → H' r = some (.dK ps)) : OwnK Hb H' kvs s :=
  Paired.mapP h fun _ _ ⟨z, r, a, b, c⟩ => ⟨z, r, a, e r _ b c, c⟩
theorem own_vals {Hb H : Hp} {kvs : List (List Key × V)} {s : Sm} (h : OwnK Hb H kvs s) : ∀ v, v ∈ kvs.map (·.2) → ∃ r ps, v = .ref r ∧ H r = some (.dK ps) ∧ Hb r = none := by
  induction h with
  | nil => intro v hv; simp at hv
  | @cons a b l1 l2 hab t ih =>
    intro v hv
    rcases List.mem_cons.mp hv with e | hv
    · obtain ⟨_, r, h1, h2, h3⟩ := hab
      exact ⟨r, _, e.trans h1, h2, h3⟩
    · exact ih v hv
theorem putKK_new {κ β : Type} [DecidableEq κ] {kvs : List (κ × β)} {k : κ} (v : β) (h : getK kvs k = none) : putKK kvs k v = kvs ++ [(k, v)] := by
  unfold putKK
  rw [getK_any, h]
  exact if_neg Bool.false_ne_true
theorem putKK_old {κ β : Type} [DecidableEq κ] {kvs : List (κ × β)} {k : κ} {w : β} (v : β) (h : getK kvs k = some w) : putKK kvs k v = kvs.map fun kv => if kv.1 = k then (kv.1, v) else kv := by
  unfold putKK
  rw [getK_any, h]
  exact if_pos rfl
theorem getK_not {κ β : Type} [DecidableEq κ] {kvs : List (κ × β)} {k : κ} (h : getK kvs k = none) : ¬ k ∈ kvs.map (·.1) := fun m => by
  obtain ⟨p, hp, e⟩ := List.mem_map.mp m
  have q : (kvs.any fun kv => decide (kv.1 = k)) = true := List.any_eq_true.mpr ⟨p, hp, decide_eq_true e⟩
  rw [getK_any, h] at q
  cases q
/-- a new order, nothing before it -/
theorem OwnS.fresh {Hb H : Hp} {p q : Addr} {kvs : List (List Key × V)} {s : Sm} {o : Od} (h : OwnS Hb H p kvs s) (hb : Ex Hb H) (hg : getK s o = none) (hv : valV kvs (ko o) = none) (hq : H q = none) :
    OwnS Hb (upd (upd H q (.dK [])) p (.dT (putK kvs (ko o) (.ref q)))) p (kvs ++ [(ko o, .ref q)]) (s ++ [(o, [])]) := by
  have npq : q ≠ p := fun e => by
    rw [e, h.at_] at hq
    cases hq
  have nqv : V.ref q ∉ kvs.map (·.2) := fun m => by
    obtain ⟨r, ps, e, h1, _⟩ := own_vals h.ks _ m
    cases e
    rw [hq] at h1
    cases h1
  refine ⟨?_, h.nb, ?_, ?_, ?_⟩
  · rw [upd_same, putK_new _ hv]
  · refine Paired.snoc (h.ks.mono fun r ps h1 h2 => ?_) ⟨rfl, q, rfl, ?_, fresh_back hb hq⟩
    · rw [upd_ne (ne_of h1 h.at_ (fun z => nomatch z)), upd_ne (ne_of_none h1 hq)]
      exact h1
    · show upd (upd H q (.dK [])) p _ q = some (.dK [])
      rw [upd_ne npq, upd_same]
  · rw [List.map_append]
    exact nd_snoc h.nv nqv
  · rw [List.map_append]
    exact nd_snoc h.nk (getK_not hg)
/-- what stands before an order is changed -/
theorem own_upd {Hb H H' : Hp} {r : Addr} {o : Od} {pl' : Poly} (hr : H' r = some (.dK (encP pl'))) (hn : Hb r = none) (he : ∀ b ob, H b = some ob → b ≠ r → H' b = some ob) :
    ∀ {kvs : List (List Key × V)} {s : Sm}, OwnK Hb H kvs s → (kvs.map (·.2)).Nodup → (s.map (·.1)).Nodup → valV kvs (ko o) = some (.ref r) → OwnK Hb H' kvs (s.map fun kv => if kv.1 = o then (kv.1, pl') else kv)
  | _, _, .nil, _, _, h => by cases h
  | a :: kvs, b :: s, .cons hab t, nv, nk, h => by
    obtain ⟨nv1, nv2⟩ := List.nodup_cons.mp nv
    obtain ⟨nk1, nk2⟩ := List.nodup_cons.mp nk
    by_cases e : b.1 = o
    · rw [valV_pos (by rw [hab.1, e])] at h
      have ea : a.2 = .ref r := Option.some.inj h
      rw [List.map_cons, if_pos e]
      refine .cons ⟨hab.1, r, ea, hr, hn⟩ ?_
      have same : (s.map fun kv => if kv.1 = o then (kv.1, pl') else kv) = s := by
        refine (List.map_congr_left fun x hx => ?_).trans (List.map_id s)
        refine if_neg fun z => nk1 ?_
        show b.1 ∈ s.map (·.1)
        rw [e, ← z]
        exact List.mem_map.mpr ⟨x, hx, rfl⟩
      rw [same]
      clear same nk1 nk2 nk h
      induction t with
      | nil => exact .nil
      | @cons a' b' l1 l2 hab' t ih =>
        obtain ⟨z, r', h1, h2, h3⟩ := hab'
        have ne : r' ≠ r := fun w => nv1 (by
          show a.2 ∈ (a' :: l1).map (·.2)
          rw [ea, ← w, ← h1]
          exact List.mem_cons_self)
        refine .cons ⟨z, r', h1, he _ _ h2 ne, h3⟩ (ih ?_ (fun m => nv1 (List.mem_cons.mpr (Or.inr m))) (List.nodup_cons.mp nv2).2)
        exact List.nodup_cons.mpr ⟨fun m => nv1 (List.mem_cons.mpr (Or.inr m)), (List.nodup_cons.mp nv2).2⟩
    · rw [valV_neg (fun z => e (ko_inj (by rw [← hab.1, z])))] at h
      rw [List.map_cons, if_neg e]
      refine .cons ?_ (own_upd hr hn he t nv2 nk2 h)
      obtain ⟨z, r', h1, h2, h3⟩ := hab
      have mem : V.ref r ∈ kvs.map (·.2) := by
        unfold valV at h
        obtain ⟨x, hx, ex⟩ := Option.map_eq_some_iff.mp h
        exact List.mem_map.mpr ⟨x, List.mem_of_find?_eq_some hx, ex⟩
      have ne : r' ≠ r := fun w => nv1 (by
        show a.2 ∈ kvs.map (·.2)
        rw [h1, w]
        exact mem)
      exact ⟨z, r', h1, he _ _ h2 ne, h3⟩
theorem map_fst_upd (s : Sm) (o : Od) (pl : Poly) : (s.map fun kv => if kv.1 = o then (kv.1, pl) else kv).map (·.1) = s.map (·.1) := by
  rw [List.map_map]
  refine List.map_congr_left fun x _ => ?_
  show (if x.1 = o then (x.1, pl) else x).1 = x.1
  split <;> rfl
theorem OwnS.upd {Hb H H' : Hp} {p r : Addr} {kvs : List (List Key × V)} {s : Sm} {o : Od} {pl0 pl' : Poly} (h : OwnS Hb H p kvs s) (hg : getK s o = some pl0) (hv : valV kvs (ko o) = some (.ref r)) (hr : H' r = some (.dK (encP pl'))) (hn : Hb r = none) (hp : H' p = some (.dT kvs))
    (he : ∀ b ob, H b = some ob → b ≠ r → H' b = some ob) : OwnS Hb H' p kvs (putKK s o pl') := by
  refine ⟨hp, h.nb, ?_, h.nv, ?_⟩
  · rw [putKK_old pl' hg]
    exact own_upd hr hn he h.ks h.nv h.nk hv
  · rw [putKK_old pl' hg, map_fst_upd]
    exact h.nk
end U
namespace U
open PySem L2 Evl
section
variable {P : Program} {w : World} {K : PySem.W.Frag} {mg : Str → Option Value} {base : Heap}
/-! ### a polynomial put before an order -/
def chk (s : Sm) : Bool := decide (s.length ≤ 100) && s.all fun e => decide (e.2.length ≤ 100)
def spPut : Sp := fun vs H Q _ => ∃ (Hb : Hp) (p : Addr) (kvs : List (List Key × V)) (s : Sm) (vo vp : V) (o : Od) (pl : Poly) (shift many : Int), vs = [.ref p, vo, vp, .int shift, .int many] ∧ Ex Hb H ∧ OwnS Hb H p kvs s ∧ Rp Hb vo (dO o) ∧ RpP Hb vp pl ∧
  (-(2 ^ 64) < many ∧ many < 2 ^ 64) ∧ chk s = true ∧ pl.length ≤ 100 ∧ ∀ H' kvs', Ex Hb H' → OwnS Hb H' p kvs' (kput s o pl shift many) → Q .non H'
theorem addP_len (shift many : Int) : ∀ (pl here : Poly), (pl.foldl (addP shift many) here).length ≤ here.length + pl.length
  | [], here => Nat.le_refl _
  | e :: pl, here => by
    have h1 := addP_len shift many pl (addP shift many here e)
    have h2 : (addP shift many here e).length ≤ here.length + 1 := by
      unfold addP putKK
      split
      · rw [List.length_map]
        omega
      · rw [List.length_append, List.length_singleton]
        omega
    rw [List.foldl_cons, List.length_cons]
    omega
theorem getK_snoc {κ β : Type} [DecidableEq κ] {kvs : List (κ × β)} {k : κ} {v : β} (h : getK kvs k = none) : getK (kvs ++ [(k, v)]) k = some v := by
  unfold getK at h ⊢
  rw [List.find?_append, Option.map_eq_none_iff.mp h]
  simp [List.find?_cons]
theorem getK_mem {κ β : Type} [DecidableEq κ] {kvs : List (κ × β)} {k : κ} {v : β} (h : getK kvs k = some v) : (k, v) ∈ kvs := by
  unfold getK at h
  obtain ⟨x, hx, e⟩ := Option.map_eq_some_iff.mp h
  have e1 := List.find?_some hx
  have e2 := of_decide_eq_true e1
  have e3 : x = (k, v) := Prod.ext e2 e
  rw [← e3]
  exact List.mem_of_find?_eq_some hx
theorem ok_put (T : Txt K mg) : FnOk P w K mg base CX0 1 T.put.f T.put.fd ["found", "order", "poly", "shift", "many"] spPut := by
  refine T.put.F.ok sc_put (fun vs H Q E h => ?_) (fun cdv A outer s H vs Q E hr h => ?_)
  · obtain ⟨_, _, _, _, _, _, _, _, _, _, rfl, _⟩ := h
    rfl
  obtain ⟨Hb, p, kvs, sm, vo, vp, o, pl, shift, many, rfl, eb, O, ro, rp, hm, hchk, hpl, k⟩ := h
  refine ⟨_, (pss_cons (ps_if (pt_cmp (pc_dnotin (hu_of hr) (pv 1) (pv 0)))
        (pss_one (ps_dput (hu_of hr) (pv 0) (pv 1) pe_dnewK rfl))
        pss_nil)
      (pss_cons (ps_set (i := 5) sc_put.nd rfl (Or.inl rfl) (pe_dget (hu_of hr) (pv 0) (pv 1) (fun _ _ => rfl)))
      (pss_one (ps_unl (ps_for PassesOwn.never rfl (pi_itemsL (pv 2)) (pg_tup rfl (pgs_cons (pg_name (i := 6) sc_put.nd rfl (Or.inl rfl)) (pgs_cons (pg_name (i := 7) sc_put.nd rfl (Or.inl rfl)) pgs_nil)))
        (pss_one (ps_dput (hu_of hr) (pv 5) (pe_op op_add (pv 6) (pv 3)) (pe_op op_add (pe_dget2 (hu_of hr) (pv 5) (pe_op op_add (pv 6) (pv 3)) pe_int ⟨rfl, rfl, rfl, rfl⟩) (pe_op op_mul (pv 4) (pv 7))) rfl))))))), ?_⟩
  obtain ⟨ao, os, rfl, hao, rao⟩ := ro.tup_inv
  obtain rfl := rao.ints
  obtain ⟨rp_, rfl, hrp⟩ := rp
  unfold chk at hchk
  simp only [Bool.and_eq_true, decide_eq_true_eq, List.all_eq_true] at hchk
  obtain ⟨hc1, hc2⟩ := hchk
  have hlen : kvs.length = sm.length := paired_len O.ks
  have hak : ∀ H' : Hp, Ex Hb H' → H' ao = some (.tup ((ko o).map kV)) := fun H' e => by
    rw [ko_kV]
    exact e _ _ hao
  -- behind the first if
  have rest : ∀ (D : Ends) (H1 : Hp) (kvs1 : List (List Key × V)) (s1 : Sm) (pl0 : Poly), (∀ σ' H', D.nx σ' H' ↔ Q .non H') → Ex Hb H1 → OwnS Hb H1 p kvs1 s1 → getK s1 o = some pl0 → pl0.length ≤ 100 → kput sm o pl shift many = putKK s1 o (pl.foldl (addP shift many) pl0) →
      tSeq (tAsg (tDGet (tVar 0) (tVar 1)) (gName 5)) (tUnl (tFor (iItemsL (tVar 2)) (gTup K 2 (gCons (gName 6) (gCons (gName 7) gNil))) (sDPut (tVar 5) (tOp (rI0 fun i j => .int (i + j)) (tVar 6) (tVar 3)) (tOp (rI0 fun i j => .int (i + j)) (tDGet2 (tVar 5) (tOp (rI0 fun i j => .int (i + j)) (tVar 6) (tVar 3)) (tC (.int 0))) (tOp (rI CMul fun i j => .int (i * j)) (tVar 4) (tVar 7))))))
        D [some (.ref p), some (.ref ao), some (.ref rp_), some (.int shift), some (.int many), none, none, none] H1 := fun D H1 kvs1 s1 pl0 hD e1 O1 hg hpl0 hk => by
    obtain ⟨hgn, _⟩ | ⟨pl1, v, hg1, hv, r, rfl, hr, hrn⟩ := paired_val O1.ks o
    · rw [hg] at hgn
      cases hgn
    have epl : pl1 = pl0 := by
      rw [hg] at hg1
      exact (Option.some.inj hg1).symm
    subst epl
    have nrp : r ≠ rp_ := fun z => by
      rcases hrp with q | ⟨_, q⟩ <;> rw [← z, hrn] at q <;> cases q
    refine ⟨_, rfl, _, rfl, p, .ref r, rfl, ?_, ?_⟩
    · rw [← hv]
      exact DGet.t O1.at_ (hak H1 e1)
    refine ⟨_, rfl, rp_, encP pl, rfl, Rd.ex e1 hrp, fun od hod => ?_⟩
    refine for_it (walk_items (d := rp_) (o := od) (kvs := encP pl)) (fun i σ' H' => ∃ s6 s7, σ' = [some (.ref p), some (.ref ao), some (.ref rp_), some (.int shift), some (.int many), some (.ref r), s6, s7] ∧
      (∀ b ob, upd H1 rp_ (.frz od (.dK (encP pl))) b = some ob → b ≠ r → H' b = some ob) ∧ H' r = some (.dK (encP ((pl.take i).foldl (addP shift many) pl1)))) ⟨none, none, rfl, fun b ob h _ => h, ?_⟩
      (fun i σ' H' _ ⟨_, _, _, he, _⟩ => he _ _ upd_same (Ne.symm nrp)) (fun i x σ' H' H'' hi ⟨s6, s7, hσ, he, hr'⟩ y => ?_) fun σ' H' ⟨s6, s7, hσ, he, hr'⟩ => ?_
    · rw [upd_ne nrp]
      exact hr
    · subst hσ
      obtain ⟨Tp, x1, y1, rfl, hT, rfl, f1, f2⟩ := y
      have hi' : i < pl.length := by rw [encP_len] at hi; exact hi
      obtain ⟨⟨pw, nm⟩, hpn⟩ : ∃ e, pl[i]? = some e := ⟨pl[i], List.getElem?_eq_getElem hi'⟩
      have hen : (encP pl)[i]? = some (Sum.inl pw, V.int nm) := by
        unfold encP
        rw [List.getElem?_map, hpn]
        rfl
      simp only [hen, Option.map_some, Option.some.injEq] at f1 f2
      subst f1 f2
      have hrT : r ≠ Tp := ne_of_none hr' hT
      generalize hhere : (pl.take i).foldl (addP shift many) pl1 = here at hr'
      have hr'' : upd H' Tp (.tup [.int pw, .int nm]) r = some (.dK (encP here)) := by
        rw [upd_ne hrT]
        exact hr'
      have hl' : here.length ≤ 200 := by
        have q := addP_len shift many (pl.take i) pl1
        rw [hhere, List.length_take] at q
        omega
      have ho : (valV (encP here) (Sum.inl (pw + shift))).getD (V.int 0) = V.int ((getK here (pw + shift)).getD 0) := by
        rw [val_encP]
        cases getK here (pw + shift) <;> rfl
      refine ⟨Tp, _, rfl, SqT.of upd_same, rfl, _, _, rfl, _, _, rfl, rfl, ?_⟩
      refine ⟨_, rfl, r, rfl, Or.inl ⟨_, Rd.of hr''⟩, _, rfl, _, rfl, pw, shift, rfl, rfl, valV (encP here) (Sum.inl (pw + shift)), DGet.k (k := Sum.inl (pw + shift)) hr'', _, rfl, _, rfl, many, nm, rfl, rfl, Or.inl hm, _, _, ho, rfl, ?_⟩
      refine ⟨_, rfl, _, rfl, _, rfl, pw, shift, rfl, rfl, r, _, rfl, DPut.k (k := Sum.inl (pw + shift)) hr'' (by rw [encP_len]; exact Nat.lt_of_le_of_lt hl' (by decide)), _, _, rfl, fun b ob h hb => ?_, ?_⟩
      · have q := he b ob h hb
        rw [upd_ne hb, upd_ne (ne_of_none q hT)]
        exact q
      · rw [upd_same, put_encP, foldl_take (addP shift many) hpn, hhere]
        rfl
    · subst hσ
      rw [encP_len, List.take_length] at hr'
      have fin : ∀ Hf : Hp, (∀ b, b ≠ rp_ → Hf b = H' b) → Hf rp_ = H1 rp_ → Q .non Hf := fun Hf h1 h2 => by
        have he1 : ∀ b ob, H1 b = some ob → b ≠ r → Hf b = some ob := fun b ob h hb => by
          by_cases hbr : b = rp_
          · rw [hbr, h2, ← hbr]
            exact h
          · rw [h1 b hbr]
            exact he b ob (by rw [upd_ne hbr]; exact h) hb
        have npr : p ≠ r := ne_of O1.at_ hr (fun z => nomatch z)
        refine k Hf kvs1 (fun b ob h => ?_) ?_
        · exact he1 b ob (e1 b ob h) fun z => by rw [z, hrn] at h; cases h
        · rw [hk]
          exact O1.upd hg hv (by rw [h1 r nrp]; exact hr') hrn (he1 p _ O1.at_ npr) he1
      rcases hod with hp | hf
      · refine Or.inr ⟨rp_, od, .dK (encP pl), (fun o' u' z => by rw [hp] at z; cases z), he _ _ upd_same (Ne.symm nrp), (hD _ _).mpr (fin _ (fun b hb => upd_ne hb) ?_)⟩
        rw [upd_same, hp]
      · refine Or.inl ((hD _ _).mpr (fin H' (fun _ _ => rfl) ?_))
        rw [he _ _ upd_same (Ne.symm nrp), hf]
  -- if order not in found: found[order] = {}
  refine ⟨_, rfl, _, rfl, p, valV kvs (ko o), rfl, DGet.t O.at_ (hak H eb), _, rfl, ?_⟩
  obtain ⟨hg, hv⟩ | ⟨pl0, v, hg, hv, r, rfl, hr', hrn⟩ := paired_val O.ks o
  · rw [hv]
    refine iteT fun q hq => ?_
    have npq : p ≠ q := ne_of_none O.at_ hq
    have e2 : Ex Hb (upd (upd H q (.dK [])) p (.dT (putK kvs (ko o) (.ref q)))) := Ex.mut (Ex.trans eb (Ex.new hq)) O.nb
    refine ⟨_, rfl, _, rfl, p, _, rfl, DPut.t (by rw [upd_ne npq]; exact O.at_) (Ex.new hq _ _ (hak H eb)) (by rw [hlen]; exact Nat.lt_of_le_of_lt hc1 (by decide)), ?_⟩
    refine rest _ _ _ (sm ++ [(o, [])]) [] (fun _ _ => Iff.rfl) e2 (O.fresh eb hg hv hq) ?_ (Nat.zero_le _) ?_
    · exact getK_snoc hg
    · unfold kput
      rw [hg]
      show putKK (putKK sm o []) o (pl.foldl (addP shift many) ((getK (putKK sm o []) o).getD [])) = _
      rw [putKK_new [] hg, getK_snoc hg]
      rfl
  · rw [hv]
    refine iteF ?_
    refine rest _ _ kvs sm pl0 (fun _ _ => Iff.rfl) eb O hg ?_ ?_
    · exact hc2 _ (getK_mem hg)
    · unfold kput
      simp only [hg, Option.isSome_some, if_true, Option.getD_some]
end
end U
namespace U
open PySem L2 Evl
/-! ### dicts locked and freed -/
def Dk : HO → Prop
  | .dK _ => True
  | .dT _ => True
  | _ => False
def Lx (G G1 : Hp) : Prop := ∀ a ob, G a = some ob → G1 a = some ob ∨ ∃ od u, Dk u ∧ ((ob = u ∧ G1 a = some (.frz od u)) ∨ (ob = .frz od u ∧ G1 a = some u))
theorem Lx.keep {G G1 : Hp} (e : Lx G G1) {a : Addr} {ob : HO} (h : G a = some ob) (h1 : ¬ Dk ob) (h2 : ∀ od u, ob ≠ .frz od u) : G1 a = some ob := by
  rcases e a ob h with z | ⟨od, u, hu, ⟨z, _⟩ | ⟨z, _⟩⟩
  · exact z
  · exact absurd (z ▸ hu) h1
  · exact absurd z (h2 od u)
mutual
theorem Rp.lx {H H' : Hp} (e : Lx H H') : ∀ {v : V} {d : PyData}, Rp H v d → Rp H' v d
  | _, _, .non => .non
  | _, _, .bl b => .bl b
  | _, _, .int i => .int i
  | _, _, .lst h r => .lst (e.keep h (fun z => z) (fun _ _ z => nomatch z)) (RpAll.lx e r)
  | _, _, .tup h r => .tup (e.keep h (fun z => z) (fun _ _ z => nomatch z)) (RpAll.lx e r)
theorem RpAll.lx {H H' : Hp} (e : Lx H H') : ∀ {vs : List V} {ds : List PyData}, RpAll H vs ds → RpAll H' vs ds
  | _, _, .nil => .nil
  | _, _, .cons h r => .cons (Rp.lx e h) (RpAll.lx e r)
end
theorem Rd.lx {G G1 : Hp} (e : Lx G G1) {a : Addr} {u : HO} (hu : Dk u) (h : Rd G a u) : Rd G1 a u := by
  rcases h with h | ⟨od, h⟩
  · rcases e a _ h with z | ⟨od, u', hu', ⟨z, z2⟩ | ⟨z, z2⟩⟩
    · exact Or.inl z
    · subst z
      exact Or.inr ⟨od, z2⟩
    · subst z
      exact hu.elim
  · rcases e a _ h with z | ⟨od', u', hu', ⟨z, z2⟩ | ⟨z, z2⟩⟩
    · exact Or.inr ⟨od, z⟩
    · subst z
      exact hu'.elim
    · cases z
      exact Or.inl z2
theorem RpP.lx {G G' : Hp} {v : V} {p : Poly} (e : Lx G G') (h : RpP G v p) : RpP G' v p := let ⟨r, a, b⟩ := h; ⟨r, a, Rd.lx e True.intro b⟩
theorem SmIs.lx {G G' : Hp} {kvs : List (List Key × V)} {s : Sm} (e : Lx G G') (h : SmIs G kvs s) : SmIs G' kvs s := Paired.mapP h fun _ _ z => ⟨z.1, z.2.lx e⟩
theorem RpS.lx {G G' : Hp} {v : V} {s : Sm} (e : Lx G G') (h : RpS G v s) : RpS G' v s := let ⟨q, kvs, a, b, c⟩ := h; ⟨q, kvs, a, Rd.lx e True.intro b, c.lx e⟩
/-- a dict is locked, as an iterator locks it -/
theorem lk_in {G H : Hp} {q : Addr} {u : HO} {od : Obj} (hu : Dk u) (hG : Rd G q u) (e : Ex G H) (ho : H q = some u ∨ H q = some (.frz od u)) :
    Ex (upd G q (.frz od u)) (upd H q (.frz od u)) ∧ Lx G (upd G q (.frz od u)) ∧ ∀ a, upd G q (.frz od u) a = none ↔ G a = none := by
  have ng : G q ≠ none := by
    rcases hG with h | ⟨_, h⟩ <;> exact ne_none h
  have gq : G q = some u ∨ G q = some (.frz od u) := by
    obtain ⟨ob, hob⟩ := Option.ne_none_iff_exists'.mp ng
    have h2 := e q ob hob
    rcases ho with h | h <;> rw [h] at h2 <;> cases h2
    · exact Or.inl hob
    · exact Or.inr hob
  refine ⟨fun a ob h => ?_, fun a ob h => ?_, fun a => ?_⟩
  · by_cases ea : a = q
    · subst ea
      rw [upd_same] at h ⊢
      exact h
    · rw [upd_ne ea] at h ⊢
      exact e a ob h
  · by_cases ea : a = q
    · subst ea
      rw [upd_same]
      rcases gq with z | z <;> rw [z] at h <;> cases h
      · exact Or.inr ⟨od, u, hu, Or.inl ⟨rfl, rfl⟩⟩
      · exact Or.inl rfl
    · rw [upd_ne ea]
      exact Or.inl h
  · by_cases ea : a = q
    · subst ea
      rw [upd_same]
      exact ⟨(fun z => nomatch z), fun z => absurd z ng⟩
    · rw [upd_ne ea]
/-- and freed behind the loop, if it was free -/
theorem lk_out {G H G2 H2 Hs : Hp} {q : Addr} {u : HO} {od : Obj} (hu : Dk u) (hG : Rd G q u) (e : Ex G H) (ho : H q = some u ∨ H q = some (.frz od u)) (hs : H q = some u → ∀ o' u', Hs q ≠ some (.frz o' u')) (e2 : Ex (upd G q (.frz od u)) G2) (eh : Ex G2 H2) :
    ∃ G3 H3 : Hp, Ex G G3 ∧ Ex G3 H3 ∧ Lx G2 G3 ∧ (∀ a, G3 a = none ↔ G2 a = none) ∧ (∀ a, a ≠ q → H3 a = H2 a) ∧ H3 q = H q ∧ ∀ (N : Hp → Prop), N H3 → (N H2 ∨ ∃ d od u, (∀ o' u', Hs d ≠ some (.frz o' u')) ∧ H2 d = some (.frz od u) ∧ N (upd H2 d u)) := by
  have g2 : G2 q = some (.frz od u) := e2 q _ upd_same
  have h2 : H2 q = some (.frz od u) := eh q _ g2
  obtain ⟨ob, hob⟩ : ∃ ob, G q = some ob := by
    rcases hG with h | ⟨_, h⟩ <;> exact ⟨_, h⟩
  have hq2 := e q ob hob
  rcases ho with hq | hq
  · have eo : ob = u := by
      rw [hq] at hq2
      exact (Option.some.inj hq2).symm
    subst eo
    refine ⟨upd G2 q ob, upd H2 q ob, fun a o h => ?_, fun a o h => ?_, fun a o h => ?_, fun a => ?_, fun a ha => upd_ne ha, by rw [upd_same, hq], fun N n => Or.inr ⟨q, od, ob, hs hq, h2, n⟩⟩
    · by_cases ea : a = q
      · subst ea
        rw [upd_same, ← h, hob]
      · rw [upd_ne ea]
        exact e2 a o (by rw [upd_ne ea]; exact h)
    · by_cases ea : a = q
      · subst ea
        rw [upd_same] at h ⊢
        exact h
      · rw [upd_ne ea] at h ⊢
        exact eh a o h
    · by_cases ea : a = q
      · subst ea
        rw [g2] at h
        cases h
        exact Or.inr ⟨od, ob, hu, Or.inr ⟨rfl, upd_same⟩⟩
      · exact Or.inl (by rw [upd_ne ea]; exact h)
    · by_cases ea : a = q
      · subst ea
        rw [upd_same, g2]
        exact ⟨(fun z => nomatch z), (fun z => nomatch z)⟩
      · rw [upd_ne ea]
  · have eo : ob = .frz od u := by
      rw [hq] at hq2
      exact (Option.some.inj hq2).symm
    subst eo
    rw [upd_id hob] at e2
    exact ⟨G2, H2, e2, eh, fun a o h => Or.inl h, fun a => Iff.rfl, fun _ _ => rfl, by rw [h2, hq], fun N n => Or.inl n⟩
/-! ### what a sum of one's own stands on -/
def Ow (p : Addr) (kvs : List (List Key × V)) (a : Addr) : Prop := a = p ∨ V.ref a ∈ kvs.map (·.2)
open Classical in
noncomputable def Wo (H : Hp) (p : Addr) (kvs : List (List Key × V)) : Hp := fun a => if Ow p kvs a then none else H a
theorem wo_ne {H : Hp} {p : Addr} {kvs : List (List Key × V)} {a : Addr} (h : ¬ Ow p kvs a) : Wo H p kvs a = H a := if_neg h
theorem wo_ow {H : Hp} {p : Addr} {kvs : List (List Key × V)} {a : Addr} (h : Ow p kvs a) : Wo H p kvs a = none := if_pos h
theorem OwnS.ow {B H : Hp} {p : Addr} {kvs : List (List Key × V)} {s : Sm} (O : OwnS B H p kvs s) {a : Addr} (h : Ow p kvs a) : B a = none ∧ ∃ ob, H a = some ob ∧ Dk ob := by
  rcases h with e | m
  · subst e
    exact ⟨O.nb, _, O.at_, True.intro⟩
  · obtain ⟨r, ps, e, h1, h2⟩ := own_vals O.ks _ m
    cases e
    exact ⟨h2, _, h1, True.intro⟩
theorem own_key {B H : Hp} {kvs : List (List Key × V)} {s : Sm} (h : OwnK B H kvs s) {F : V → Poly → Prop} (k : ∀ r pl, V.ref r ∈ kvs.map (·.2) → H r = some (.dK (encP pl)) → B r = none → F (.ref r) pl) : Paired (fun a b => a.1 = ko b.1 ∧ F a.2 b.2) kvs s := by
  induction h with
  | nil => exact .nil
  | @cons a b l1 l2 hab t ih =>
    obtain ⟨z, r, e, h1, h2⟩ := hab
    refine .cons ⟨z, e ▸ k r _ ?_ h1 h2⟩ (ih fun r pl m => k r pl (List.mem_cons.mpr (Or.inr m)))
    rw [← e]
    exact List.mem_cons_self
theorem OwnS.re {G H G3 H3 : Hp} {p : Addr} {kvs : List (List Key × V)} {s : Sm} (O : OwnS G H p kvs s) (hh : ∀ a ob, Ow p kvs a → H a = some ob → G a = none → H3 a = some ob) (hg : ∀ a, Ow p kvs a → G a = none → H a ≠ none → G3 a = none) : OwnS G3 H3 p kvs s :=
  ⟨hh p _ (Or.inl rfl) O.at_ O.nb, hg p (Or.inl rfl) O.nb (ne_none O.at_), own_key O.ks fun r pl m h1 h2 => ⟨r, rfl, hh r _ (Or.inr m) h1 h2, hg r (Or.inr m) h2 (ne_none h1)⟩, O.nv, O.nk⟩
theorem OwnS.ext {G H G' H' : Hp} {p : Addr} {kvs : List (List Key × V)} {s : Sm} (O : OwnS G H p kvs s) (x : Ext G H G' H') : OwnS G' H' p kvs s := O.re (fun a ob _ h _ => x.h a ob h) fun a _ h1 h2 => x.fr a h1 h2
theorem OwnS.w {G H : Hp} {p : Addr} {kvs : List (List Key × V)} {s : Sm} (O : OwnS G H p kvs s) : OwnS (Wo H p kvs) H p kvs s := O.re (fun a ob _ h _ => h) fun a h _ _ => wo_ow h
theorem OwnS.less {G H G3 : Hp} {p : Addr} {kvs : List (List Key × V)} {s : Sm} (O : OwnS G H p kvs s) (e : Ex G3 G) : OwnS G3 H p kvs s := O.re (fun a ob _ h _ => h) fun a h h1 _ => fresh_back e h1
theorem wo_ex {H : Hp} {p : Addr} {kvs : List (List Key × V)} : Ex (Wo H p kvs) H := fun a ob h => by
  by_cases z : Ow p kvs a
  · rw [wo_ow z] at h
    cases h
  · rw [wo_ne z] at h
    exact h
theorem OwnS.gw {G H : Hp} {p : Addr} {kvs : List (List Key × V)} {s : Sm} (O : OwnS G H p kvs s) (e : Ex G H) : Ex G (Wo H p kvs) := fun a ob h => by
  by_cases z : Ow p kvs a
  · rw [(O.ow z).1] at h
    cases h
  · rw [wo_ne z]
    exact e a ob h
theorem OwnS.wk {G H : Hp} {p : Addr} {kvs : List (List Key × V)} {s : Sm} (O : OwnS G H p kvs s) {a : Addr} {ob : HO} (h : H a = some ob) (hn : ¬ Dk ob) : Wo H p kvs a = some ob := by
  by_cases z : Ow p kvs a
  · obtain ⟨_, o2, h2, d2⟩ := O.ow z
    rw [h] at h2
    cases h2
    exact absurd d2 hn
  · rw [wo_ne z]
    exact h
theorem own_start {G H : Hp} {p : Addr} (e : Ex G H) (hp : H p = none) : OwnS G (upd H p (.dT [])) p [] [] := ⟨upd_same, fresh_back e hp, .nil, List.nodup_nil, List.nodup_nil⟩
/-- an own sum is a sum -/
theorem OwnS.rps {G H : Hp} {p : Addr} {kvs : List (List Key × V)} {s : Sm} (O : OwnS G H p kvs s) : RpS H (.ref p) s := ⟨p, kvs, rfl, Or.inl O.at_, own_key O.ks fun r pl _ h1 _ => ⟨r, rfl, Or.inl h1⟩⟩
/-! ### sums whose polynomials stand still -/
theorem sm_any {F : V → Poly → Prop} {kvs : List (List Key × V)} {s : Sm} (h : Paired (fun a b => a.1 = ko b.1 ∧ F a.2 b.2) kvs s) (o : Od) : (kvs.any fun kv => decide (kv.1 = ko o)) = s.any fun kv => decide (kv.1 = o) := by
  induction h with
  | nil => rfl
  | @cons a b l1 l2 hab t ih =>
    rw [List.any_cons, List.any_cons, ih]
    congr 1
    exact decide_eq_decide.mpr ⟨fun z => ko_inj (by rw [← hab.1, z]), fun z => by rw [hab.1, z]⟩
theorem SmIs.put {G : Hp} {kvs : List (List Key × V)} {s : Sm} {o : Od} {v : V} {pl : Poly} (h : SmIs G kvs s) (hv : RpP G v pl) : SmIs G (putK kvs (ko o) v) (putKK s o pl) := by
  unfold putK putKK
  rw [sm_any h]
  split
  · rename_i hh
    clear hh
    induction h with
    | nil => exact .nil
    | @cons a b l1 l2 hab t ih =>
      refine .cons ?_ ih
      dsimp only
      by_cases z : b.1 = o
      · rw [if_pos z, if_pos (by rw [hab.1, z])]
        exact ⟨hab.1, hv⟩
      · rw [if_neg z, if_neg fun w => z (ko_inj (by rw [← hab.1, w]))]
        exact hab
  · exact Paired.snoc h ⟨rfl, hv⟩
theorem putKK_len {κ β : Type} [DecidableEq κ] (kvs : List (κ × β)) (k : κ) (v : β) : (putKK kvs k v).length ≤ kvs.length + 1 := by
  unfold putKK
  split
  · rw [List.length_map]
    omega
  · rw [List.length_append, List.length_singleton]
    omega
theorem merge_enc (kvs : Poly) : ∀ a : Poly, mergeK (encP a) (encP kvs) = encP (kvs.foldl (fun a kv => putKK a kv.1 kv.2) a) := by
  induction kvs with
  | nil => intro a; rfl
  | cons e r ih =>
    intro a
    show mergeK (putK (encP a) (Sum.inl e.1) (V.int e.2)) (encP r) = _
    rw [put_encP, ih]
    rfl
theorem dict_enc (kvs : Poly) : mergeK [] (encP kvs) = encP (dictOf kvs) := merge_enc kvs []
/-! ### folds that are looked at as they go -/
def fOk {α β : Type} (f : β → α → β) (c : β → α → Bool) : β → List α → Bool
  | _, [] => true
  | b, a :: as => c b a && fOk f c (f b a) as
theorem fOk_at {α β : Type} {f : β → α → β} {c : β → α → Bool} : ∀ {l : List α} {b : β} {i : Nat} {a : α}, fOk f c b l = true → l[i]? = some a → c ((l.take i).foldl f b) a = true
  | [], _, _, _, _, h => by simp at h
  | x :: l, b, 0, a, h, e => by
    cases e
    exact (Bool.and_eq_true_iff.mp h).1
  | x :: l, b, i + 1, a, h, e => fOk_at (l := l) (Bool.and_eq_true_iff.mp h).2 e
theorem Paired.at2 {α β : Type} {F : α → β → Prop} : ∀ {l1 : List α} {l2 : List β} {i : Nat} {a : α}, Paired F l1 l2 → l1[i]? = some a → ∃ b, l2[i]? = some b ∧ F a b
  | _, _, _, _, .nil, h => by simp at h
  | _, _, 0, _, .cons hab _, h => by cases h; exact ⟨_, rfl, hab⟩
  | _, _, i + 1, _, .cons _ t, h => Paired.at2 (i := i) t h
theorem Rp.ord {H : Hp} {q : Addr} {o : Od} (h : H q = some (.tup ((ko o).map kV))) : Rp H (.ref q) (dO o) := .tup (by rw [h, ko_kV]) (RpAll.ofInts o)
end U
namespace U
open PySem L2 Evl
section
variable {P : Program} {w : World} {K : PySem.W.Frag} {mg : Str → Option Value} {base : Heap}
theorem k_tup {X : Cx} {es : List Expr} {k : Nat} {t : TGs} {n : Nat} {pos : Pos} (hK : X.K = K) (hc : X.calm = true) (h : PGs X es t)
    (hn : (assignEach es X.env).length = n := by rfl) (hst : (assignEach es X.env).findIdx? (·.1) = none := by rfl) : PG X (.Tuple es k pos) (gTup K n t) := by subst hK; exact pg_tup hc h hn hst
theorem pe_mt {X : Cx} {C : Addr} {m qual : Str} {st : Stmt} {ps : List Str} {k j : Nat} {sp : Sp} {pos apos : Pos} {o e : Expr} {es : List Expr} {ta : TE} {t : TA} {pl : Sem Bool} (he : PE X o ta) (c : Cls X.K C) (D : Dm X.K C m qual st ps) (G : FnOk X.prog X.w X.K X.mg X.base CX0 k D.f D.fd ps sp) (hr : Room j X.A) (hk : k ≤ j) (ha : PA X (e :: es) t)
    (hst : starEach (e :: es) X.env = (false, eval e X.env) :: starEach es X.env := by rfl) (hpl : (backTo pos (starEach es X.env)).any (·.1) = false := by rfl)
    (ht : eval (.Call (.Attribute o m apos) (e :: es) [] pos) X.env = (do
      let ov ← eval o X.env
      standAt apos.atName
      let (f, first) ← holding [ov] (getMethod ov m pl)
      callWith pos f first (backTo pos (starEach (e :: es) X.env)) (backToKw pos (keywordEach [] X.env))) := by rfl) :
    PE X (.Call (.Attribute o m apos) (e :: es) [] pos) (tMeth C m sp [] E0 ta t) := pe_meth (pl := pl) he c D.m G (hr.mono hk) D.b .nil pass0 ha hst hpl ht

/-! ### what is no nought -/
def nz (pl : Poly) : Poly := pl.filter fun pn => !decide (pn.2 = 0)
def woF (kept : Sm) (op : Od × Poly) : Sm := if nz op.2 = [] then kept else putKK kept op.1 (dictOf (nz op.2))
def okWo (sm : Sm) : Bool := decide (sm.length ≤ 1000) && sm.all fun e => decide (e.2.length ≤ 1000)
theorem woF_len (sm : Sm) : ∀ a : Sm, (sm.foldl woF a).length ≤ a.length + sm.length := by
  induction sm with
  | nil => intro a; exact Nat.le_refl _
  | cons e r ih =>
    intro a
    have h1 := ih (woF a e)
    have h2 : (woF a e).length ≤ a.length + 1 := by
      unfold woF
      split
      · omega
      · exact putKK_len _ _ _
    rw [List.foldl_cons, List.length_cons]
    omega
def spWo : Sp := fun vs H Q _ => ∃ v sm, vs = [v] ∧ RpS H v sm ∧ okWo sm = true ∧ ∀ v' G' H', Ex H H' → Ex G' H' → (∀ b, H b ≠ none → G' b = none) → RpS G' v' (noNought sm) → Q v' H'
abbrev PrIs (H : Hp) : List Addr → List (Key × V) → Prop := Paired fun p kv => H p = some (.tup [kV kv.1, kv.2])
theorem PrIs.mono {H H' : Hp} {ps : List Addr} {kvs : List (Key × V)} (e : Ex H H') (h : PrIs H ps kvs) : PrIs H' ps kvs := Paired.mapP h fun _ _ z => e _ _ z
theorem pr_data {H : Hp} : ∀ {ps : List Addr} {pl : Poly}, PrIs H ps (encP pl) → RpAll H (ps.map V.ref) (pl.map fun e => dO [e.1, e.2])
  | [], [], _ => .nil
  | p :: ps, e :: pl, .cons h t => .cons (.tup h (.cons (.int _) (.cons (.int _) .nil))) (pr_data t)
theorem getK2 {p : Poly} {i : Nat} {e : Int × Int} (h : p[i]? = some e) : (encP p)[i]? = some (Sum.inl e.1, V.int e.2) := by
  unfold encP
  rw [List.getElem?_map, h]
  rfl
theorem ok_without_noughts (T : Txt K mg) : FnOk P w K mg base CX0 1 T.without_noughts.f T.without_noughts.fd ["found"] spWo := by
  refine T.without_noughts.F.ok sc_without_noughts (fun vs H Q E h => ?_) (fun cdv A outer s H vs Q E hr h => ?_)
  · obtain ⟨v, sm, rfl, _⟩ := h
    rfl
  refine ⟨_, (pss_cons (ps_set (i := 1) sc_without_noughts.nd rfl (Or.inl rfl) pe_dnewT)
      (pss_cons (ps_unl (ps_for PassesOwn.never rfl (pi_itemsTL (pv 0)) (pg_tup rfl (pgs_cons (pg_name (i := 2) sc_without_noughts.nd rfl (Or.inl rfl)) (pgs_cons (pg_name (i := 3) sc_without_noughts.nd rfl (Or.inl rfl)) pgs_nil)))
        (pss_cons (ps_unl (ps_setLc (i := 4) (own := [("power", 5), ("number", 6)]) rfl sc_without_noughts.nd rfl rfl (sw_true rfl rfl rfl (by decide +kernel)) (pi_itemsL (pv 3)) (blkOk_by (N := ["found", "kept", "order", "poly", "some", "power", "number"]) (sc := defScope s_without_noughts) (by decide +kernel)) (fun _ _ _ _ _ => (k_tup (K := K) (n := 2) rfl rfl (pgs_cons (pg_name (i := 5) sc_without_noughts.nd rfl (by first | exact Or.inl rfl | exact Or.inr rfl)) (pgs_cons (pg_name (i := 6) sc_without_noughts.nd rfl (by first | exact Or.inl rfl | exact Or.inr rfl)) pgs_nil)))) (fun _ _ _ _ _ => (pts_one (pt_cmpR op_ne (pv 6) pe_int (nomark _)))) (fun _ _ _ _ _ => (pe_tup (pa_cons (pv 5) (pa_cons (pv 6) pa_nil))))))
        (pss_one (ps_if (pt_cmpR (k_neD (K := K) rfl (hu64 hr)) (pv 4) (pe_lst pa_nil) (nomark _))
          (pss_one (ps_dput (hu_of hr) (pv 1) (pv 2) (pe_callTy (call_dictP rfl) (by rfl) T.dict (by decide +kernel) (pa_cons (pv 4) pa_nil)) rfl))
          pss_nil)))))
      (pss_one (ps_ret (pv 1))))), ?_⟩
  obtain ⟨v, sm, rfl, ⟨q, kvs, rfl, hq, hs⟩, hok, k⟩ := h
  unfold okWo at hok
  simp only [Bool.and_eq_true, decide_eq_true_eq, List.all_eq_true] at hok
  obtain ⟨hl, hpl⟩ := hok
  have hlen : kvs.length = sm.length := Paired.length hs
  intro p hp
  have npq : q ≠ p := fun z => by rcases hq with h | ⟨_, h⟩ <;> rw [z, hp] at h <;> cases h
  have x1 : Ex H (upd H p (.dT [])) := Ex.new hp
  refine ⟨_, rfl, q, kvs, rfl, Rd.ex x1 hq, fun od hod => ?_⟩
  have hod' : H q = some (.dT kvs) ∨ H q = some (.frz od (.dT kvs)) := by
    rw [upd_ne npq] at hod
    exact hod
  obtain ⟨e1, l1, n1⟩ := lk_in (u := .dT kvs) True.intro hq x1 hod
  generalize hG1 : upd H q (.frz od (.dT kvs)) = G1 at e1 l1 n1
  have g1q : G1 q = some (.frz od (.dT kvs)) := by rw [← hG1, upd_same]
  have p1 : G1 p = none := (n1 p).mpr hp
  refine for_it (walk_itemsT (d := q) (o := od) (kvs := kvs)) (fun i σ' H' => ∃ G' kvs' s2 s3 s4, σ' = [some (.ref q), some (.ref p), s2, s3, s4, none, none] ∧ Ex G1 H' ∧ Ex G' H' ∧ (∀ b, H b ≠ none → G' b = none) ∧ G' p = none ∧ H' p = some (.dT kvs') ∧ SmIs G' kvs' ((sm.take i).foldl woF []))
    ⟨fun _ => none, [], none, none, none, rfl, e1, (fun a ob h => nomatch h), (fun _ _ => rfl), rfl, by rw [upd_ne (Ne.symm npq), upd_same], .nil⟩
    (fun i σ' H' _ ⟨G', _, _, _, _, _, a, _⟩ => a _ _ g1q) (fun i x σ' H' H'' hi ⟨G', kvs', s2, s3, s4, hσ, ea, eb, nn, gp, hp', hk⟩ y => ?_) fun σ' H' ⟨G', kvs', s2, s3, s4, hσ, ea, eb, nn, gp, hp', hk⟩ => ?_
  · subst hσ
    obtain ⟨Tp, kk, val, qk, hkv, rfl, hT, hqk, rfl⟩ := y
    obtain ⟨⟨o, pl⟩, hop, hkk, hval⟩ := Paired.at2 hs hkv
    obtain rfl : kk = ko o := hkk
    have hval : RpP H val pl := hval
    have hpl' : pl.length ≤ 1000 := hpl _ (List.mem_of_getElem? hop)
    have hlk : kvs'.length ≤ 1000 := by
      have z1 : kvs'.length = _ := Paired.length hk
      have z2 := woF_len (sm.take i) []
      have z3 : ([] : Sm).length = 0 := rfl
      rw [z1]
      rw [List.length_take] at z2
      omega
    refine ⟨Tp, _, rfl, SqT.of upd_same, rfl, _, _, rfl, _, _, rfl, rfl, ?_⟩
    have eT : Ex H' (upd H' Tp (.tup [.ref qk, val])) := Ex.new hT
    generalize upd H' Tp (.tup [.ref qk, val]) = Ha at eT
    obtain ⟨r, rfl, hr0⟩ := (hval.lx l1).mono ea
    have npr : p ≠ r := fun z => by
      obtain ⟨r2, e2, hr2⟩ := hval
      cases e2
      rcases hr2 with h | ⟨_, h⟩ <;> rw [← z, hp] at h <;> cases h
    -- the pairs that are no noughts
    have hra : Rd Ha r (.dK (encP pl)) := Rd.ex eT hr0
    have hna : Ha r ≠ none := by rcases hra with h | ⟨_, h⟩ <;> exact ne_none h
    refine ⟨_, rfl, r, encP pl, rfl, hra, fun od2 hod2 => ?_⟩
    obtain ⟨e2, l2, n2⟩ := lk_in (u := .dK (encP pl)) True.intro hra (Ex.refl Ha) hod2
    intro D hD
    have hDa : Ha D = none := (n2 D).mp hD
    have nrD : r ≠ D := fun z => hna (by rw [z]; exact hDa)
    refine lc_it (walk_items (d := r) (o := od2) (kvs := encP pl)) (fun j Hj => ∃ ps, Ex (upd Ha r (.frz od2 (.dK (encP pl)))) Hj ∧ Hj D = some (.lst (ps.map V.ref)) ∧ PrIs Hj ps (encP (nz (pl.take j))) ∧ ps.length ≤ j)
      ⟨[], Ex.new hD, upd_same, .nil, Nat.le_refl _⟩ (fun j Hj _ ⟨ps, x, _⟩ => x _ _ upd_same) (fun j x Hj Hj' hj ⟨ps, x2, hD2, hps, hlp⟩ y => ?_) fun Hj ⟨ps, x2, hD2, hps, hlp⟩ => ?_
    · obtain ⟨T2, a1, b1, rfl, hT2, rfl, f1, f2⟩ := y
      have hj' : j < pl.length := by rw [encP_len] at hj; exact hj
      obtain ⟨⟨pw, nm⟩, hpn⟩ : ∃ e, pl[j]? = some e := ⟨pl[j], List.getElem?_eq_getElem hj'⟩
      simp only [getK2 hpn, Option.map_some, Option.some.injEq] at f1 f2
      subst f1 f2
      refine ⟨T2, _, rfl, SqT.of upd_same, rfl, _, _, rfl, _, _, rfl, rfl, rfl, ?_⟩
      have eT2 : Ex Hj (upd Hj T2 (.tup [.int pw, .int nm])) := Ex.new hT2
      refine ⟨_, rfl, rfl, _, rfl, ?_⟩
      have edn : decide (V.int nm = V.int 0) = decide (nm = 0) := dec_int nm 0
      have etk : nz (pl.take (j + 1)) = nz (pl.take j) ++ (if decide (nm = 0) = true then [] else [(pw, nm)]) := by
        unfold nz
        rw [List.take_add_one, hpn, List.filter_append]
        congr 1
        show List.filter _ [(pw, nm)] = _
        rw [List.filter_cons]
        cases decide (nm = 0) <;> rfl
      rw [edn, etk]
      cases decide (nm = 0) with
      | true =>
        refine iteF ?_
        exact ⟨ps, Ex.trans x2 eT2, eT2 _ _ hD2, by rw [if_pos rfl, List.append_nil]; exact hps.mono eT2, Nat.le_succ_of_le hlp⟩
      | false =>
        refine iteT ?_
        refine ⟨_, rfl, _, rfl, by show 2 ≤ sizeLine; decide, fun T3 hT3 => ?_⟩
        have eT3 := Ex.trans eT2 (Ex.new (o := .tup [.int pw, .int nm]) hT3)
        have hD3 := eT3 _ _ hD2
        refine ⟨_, hD3, by rw [List.length_map]; exact sz_lt (by omega), ps ++ [T3], Ex.mut (Ex.trans x2 eT3) hD, by rw [upd_same, List.map_append]; rfl, ?_, by rw [List.length_append, List.length_singleton]; omega⟩
        have hne : T3 ≠ D := fun z => by
          rw [z] at hT3
          exact absurd hT3 (ne_none (eT2 _ _ hD2))
        rw [if_neg Bool.false_ne_true]
        unfold encP
        rw [List.map_append]
        refine Paired.snoc ?_ ?_
        · refine Paired.mapP hps fun t kv z => ?_
          rw [upd_ne (ne_of (eT3 _ _ z) hD3 fun z => nomatch z)]
          exact eT3 _ _ z
        · show upd _ D _ T3 = _
          rw [upd_ne hne, upd_same]
    · rw [encP_len, List.take_length] at hps
      rw [encP_len] at hlp
      obtain ⟨G3, H3, eG3, eH3, lx3, nn3, ne3, q3, fin3⟩ := lk_out (Hs := Ha) (u := .dK (encP pl)) True.intro hra (Ex.refl Ha) hod2 (fun z o' u' z2 => by rw [z] at z2; cases z2) x2 (Ex.refl Hj)
      refine fin3 (fun Hz => (tIfS (tTest (tOp (rNeD K) (tVar 4) (tLst tNil))) _ tNext) _ _ Hz) ?_
      have eH3' : Ex Ha H3 := Ex.trans eG3 eH3
      have hD4 : H3 D = some (.lst (ps.map V.ref)) := by
        rw [ne3 D (Ne.symm nrD)]
        exact hD2
      have hps4 : PrIs H3 ps (encP (nz pl)) := by
        refine Paired.mapP hps fun t kv z => eH3 _ _ (lx3.keep z (fun z => z) fun _ _ z => nomatch z)
      have rD : Rp H3 (.ref D) (dOs ((nz pl).map fun e => [e.1, e.2])) := .lst hD4 (by
        show RpAll H3 _ (List.map _ (List.map _ _))
        rw [List.map_map]
        exact pr_data hps4)
      refine ⟨_, rfl, by show 0 ≤ sizeLine; decide, fun N hN => ?_⟩
      have eN := Ex.new (o := .lst []) hN
      refine ⟨dOs ((nz pl).map fun e => [e.1, e.2]), dOs [], (rD.mono eN).dp, Rp.dp (.lst upd_same .nil), encOs.shaped (by decide) _, encOs.shaped (by decide) _, _, rfl, ?_⟩
      have eH : Ex H' (upd H3 N (.lst [])) := Ex.trans eT (Ex.trans eH3' eN)
      have rw1 : (sm.take (i + 1)).foldl woF [] = woF ((sm.take i).foldl woF []) (o, pl) := foldl_take woF hop []
      rw [encOs.eqv, show decide ((nz pl).map (fun e => [e.1, e.2]) = []) = decide (nz pl = []) from decide_eq_decide.mpr List.map_eq_nil_iff]
      show (if (!decide (nz pl = [])) = true then _ else _)
      by_cases hnz : nz pl = []
      · rw [decide_eq_true hnz]
        refine iteF ?_
        refine ⟨G', kvs', _, _, _, rfl, Ex.trans ea eH, Ex.trans eb eH, nn, gp, eH _ _ hp', ?_⟩
        rw [rw1]
        unfold woF
        rw [if_pos hnz]
        exact hk
      · rw [decide_eq_false hnz]
        refine iteT ?_
        refine ⟨_, rfl, D, ps, encP (nz pl), rfl, SqL.of (eN _ _ hD4), Paired.mapP hps4 fun t kv z => SqT.of (eN _ _ z), fun E1 hE1 => ?_⟩
        have eE := Ex.new (o := .dK (mergeK [] (encP (nz pl)))) hE1
        have eHE := Ex.trans eH eE
        refine ⟨_, rfl, _, rfl, p, _, rfl, DPut.t (eHE _ _ hp') (eHE _ _ hqk) (sz_lt (by omega)), ?_⟩
        have gE : G' E1 = none := fresh_back (Ex.trans eb eH) hE1
        have npE : p ≠ E1 := fun z => by
          rw [← z, eH _ _ hp'] at hE1
          cases hE1
        refine ⟨upd G' E1 (.dK (mergeK [] (encP (nz pl)))), _, _, _, _, rfl, Ex.mut (Ex.trans ea eHE) p1, ?_, fun b hb => ?_, by rw [upd_ne npE]; exact gp, upd_same, ?_⟩
        · refine Ex.mut (fun a ob h => ?_) (by rw [upd_ne npE]; exact gp)
          by_cases z : a = E1
          · rw [z, upd_same] at h ⊢
            exact h
          · rw [upd_ne z] at h ⊢
            exact Ex.trans eb eH a ob h
        · rw [upd_ne fun z => ?_]
          · exact nn b hb
          · rw [z] at hb
            have q1 : G1 E1 ≠ none := fun w => hb ((n1 E1).mp w)
            exact absurd hE1 (Ex.ne (Ex.trans ea eH) q1)
        · rw [rw1]
          unfold woF
          rw [if_neg hnz]
          exact (hk.mono (Ex.new gE)).put ⟨E1, rfl, Or.inl (by rw [upd_same, dict_enc])⟩
  · subst hσ
    rw [hlen, List.take_length] at hk
    rw [← hG1] at ea
    obtain ⟨G3, H3, eG3, eH3, lx3, nn3, ne3, q3, fin3⟩ := lk_out (Hs := upd H p (.dT [])) (u := .dT kvs) True.intro hq x1 hod (fun z o' u' z2 => by rw [z] at z2; cases z2) ea (Ex.refl H')
    refine fin3 (fun Hz => (tRet (tVar 1)) _ _ Hz) ?_
    have hp3 : H3 p = some (.dT kvs') := by
      rw [ne3 p (Ne.symm npq)]
      exact hp'
    have hqn : H q ≠ none := by rcases hq with h | ⟨_, h⟩ <;> exact ne_none h
    refine ⟨_, rfl, k _ (upd G' p (.dT kvs')) H3 (Ex.trans eG3 eH3) (fun a ob h => ?_) (fun b hb => ?_) ⟨p, kvs', rfl, Or.inl upd_same, hk.mono (Ex.new gp)⟩⟩
    · by_cases z : a = p
      · rw [z, upd_same] at h
        rw [z, hp3, ← h]
      · rw [upd_ne z] at h
        rw [ne3 a fun w => by rw [w, nn q hqn] at h; cases h]
        exact eb a ob h
    · rw [upd_ne fun z => hb (by rw [z]; exact hp)]
      exact nn b hb
/-! ### by the plain one -/
def byF (k : Nat) (found : Sm) (op : Od × Poly) : Sm := kput (kput found (exch op.1 k) op.2 0 1) op.1 op.2 (if fall op.1 k then -1 else 1) 1
def byC (k : Nat) (found : Sm) (op : Od × Poly) : Bool := chk found && chk (kput found (exch op.1 k) op.2 0 1) && decide (op.1.length ≤ 4) && decide (1 ≤ k) && decide (k < op.1.length) && decide (op.2.length ≤ 100)
def okBy (k : Nat) (sm : Sm) : Bool := fOk (byF k) (byC k) [] sm
def spBy : Sp := fun vs H Q _ => ∃ v sm k, vs = [v, .int (k : Nat)] ∧ RpS H v sm ∧ okBy k sm = true ∧ ∀ p kvs H', Ex H H' → OwnS H H' p kvs (byPlain sm k) → Q (.ref p) H'
set_option maxHeartbeats 400000 in
theorem ok_by_plain_kept (T : Txt K mg) : FnOk P w K mg base CX0 4 T.by_plain_kept.f T.by_plain_kept.fd ["some", "k"] spBy := by
  refine T.by_plain_kept.F.ok sc_by_plain_kept (fun vs H Q E h => ?_) (fun cdv A outer s H vs Q E hr h => ?_)
  · obtain ⟨v, sm, k, rfl, _⟩ := h
    rfl
  refine ⟨_, (pss_cons (ps_set (i := 2) sc_by_plain_kept.nd rfl (Or.inl rfl) pe_dnewT)
      (pss_cons (ps_unl (ps_for PassesOwn.never rfl (pi_itemsTL (pv 0)) (pg_tup rfl (pgs_cons (pg_name (i := 3) sc_by_plain_kept.nd rfl (Or.inl rfl)) (pgs_cons (pg_name (i := 4) sc_by_plain_kept.nd rfl (Or.inl rfl)) pgs_nil)))
        (pss_cons (ps_set (i := 5) sc_by_plain_kept.nd rfl (Or.inl rfl) pe_int)
        (pss_cons (ps_if (pt_val (pe_dn T.is_fall (ok_is_fall T) hr (by decide) (pa_cons (pv 3) (pa_cons (pv 1) pa_nil))))
          (pss_one (ps_set (i := 5) sc_by_plain_kept.nd rfl (Or.inl rfl) (pe_un un_neg pe_int)))
          pss_nil)
        (pss_cons (ps_expr (pe_dn T.put (ok_put T) hr (by decide) (pa_cons (pv 2) (pa_cons (pe_dn T.exchanged (ok_exchanged T) hr (by decide) (pa_cons (pv 3) (pa_cons (pv 1) pa_nil))) (pa_cons (pv 4) (pa_cons pe_int (pa_cons pe_int pa_nil)))))))
        (pss_one (ps_expr (pe_dn T.put (ok_put T) hr (by decide) (pa_cons (pv 2) (pa_cons (pv 3) (pa_cons (pv 4) (pa_cons (pv 5) (pa_cons pe_int pa_nil)))))))))))))
      (pss_one (ps_ret (pv 2))))), ?_⟩
  obtain ⟨v, sm, n, rfl, ⟨q, kvs, rfl, hq, hs⟩, hok, k⟩ := h
  have hlen : kvs.length = sm.length := Paired.length hs
  intro p hp
  have npq : q ≠ p := fun z => by rcases hq with h | ⟨_, h⟩ <;> rw [z, hp] at h <;> cases h
  have x1 : Ex H (upd H p (.dT [])) := Ex.new hp
  refine ⟨_, rfl, q, kvs, rfl, Rd.ex x1 hq, fun od hod => ?_⟩
  obtain ⟨e1, l1, n1⟩ := lk_in (u := .dT kvs) True.intro hq x1 hod
  generalize hG1 : upd H q (.frz od (.dT kvs)) = G1 at e1 l1 n1
  have g1q : G1 q = some (.frz od (.dT kvs)) := by rw [← hG1, upd_same]
  have p1 : G1 p = none := (n1 p).mpr hp
  refine for_it (walk_itemsT (d := q) (o := od) (kvs := kvs)) (fun i σ' H' => ∃ G' kvs' s3 s4 s5, σ' = [some (.ref q), some (.int (n : Nat)), some (.ref p), s3, s4, s5] ∧ Ex G1 G' ∧ Ex G' H' ∧ OwnS G' H' p kvs' ((sm.take i).foldl (byF n) []))
    ⟨G1, [], none, none, none, rfl, Ex.refl _, e1, by rw [upd_ne (Ne.symm npq), upd_same], p1, .nil, List.nodup_nil, List.nodup_nil⟩
    (fun i σ' H' _ ⟨G', _, _, _, _, _, a, b, _⟩ => b _ _ (a _ _ g1q)) (fun i x σ' H' H'' hi ⟨G', kvs', s3, s4, s5, hσ, ea, eb, O⟩ y => ?_) fun σ' H' ⟨G', kvs', s3, s4, s5, hσ, ea, eb, O⟩ => ?_
  · subst hσ
    obtain ⟨Tp, kk, val, qk, hkv, rfl, hT, hqk, rfl⟩ := y
    obtain ⟨⟨o, pl⟩, hop, hkk, hval⟩ := Paired.at2 hs hkv
    obtain rfl : kk = ko o := hkk
    have hval : RpP H val pl := hval
    have hc := fOk_at hok hop
    unfold byC at hc
    simp only [Bool.and_eq_true, decide_eq_true_eq] at hc
    obtain ⟨⟨⟨⟨⟨hc1, hc2⟩, hc3⟩, hc4⟩, hc5⟩, hc6⟩ := hc
    rw [show (sm.take (i + 1)).foldl (byF n) [] = byF n ((sm.take i).foldl (byF n) []) (o, pl) from foldl_take (byF n) hop []]
    generalize (sm.take i).foldl (byF n) [] = st at O hc1 hc2 ⊢
    refine ⟨Tp, _, rfl, SqT.of upd_same, rfl, _, _, rfl, _, _, rfl, rfl, ?_⟩
    have eT : Ex H' (upd H' Tp (.tup [.ref qk, val])) := Ex.new hT
    generalize upd H' Tp (.tup [.ref qk, val]) = Ha at eT
    have Oa : OwnS G' Ha p kvs' st := O.ext (Ext.hs eb eT)
    have eGW : Ex G1 (Wo Ha p kvs') := Ex.trans ea (Oa.gw (Ex.trans eb eT))
    have Ow : OwnS (Wo Ha p kvs') Ha p kvs' st := Oa.w
    have ro : Rp (Wo Ha p kvs') (.ref qk) (dO o) := Rp.ord (Oa.wk (eT _ _ hqk) fun z => z)
    have rv : RpP (Wo Ha p kvs') val pl := (hval.lx l1).mono eGW
    have eW : Ex (Wo Ha p kvs') Ha := wo_ex
    generalize Wo Ha p kvs' = W at eGW Ow ro rv eW
    -- shift
    refine ⟨_, rfl, _, rfl, W, [dO o, dI n], _, eW, .cons ro (.cons (.int _) .nil), ⟨(o, n), rfl, ⟨hc4, hc5⟩, rfl⟩, fun vb Gb Hb xb rb => ?_⟩
    obtain rfl := rb.bl_inv
    refine ⟨_, rfl, ?_⟩
    have rest : ∀ (D : Ends) (shift : Int), shift = (if fall o n = true then -1 else 1) → (∀ G' kvs' s3 s4 s5 H', Ex G1 G' → Ex G' H' → OwnS G' H' p kvs' (byF n st (o, pl)) → D.nx [some (.ref q), some (.int (n : Nat)), some (.ref p), s3, s4, s5] H') → (tSeq
                (tDrop
                  (tCall spPut [] E0
                    (tCons (tVar 2)
                      (tCons (tCall (PSp RExch) [] E0 (tCons (tVar 3) (tCons (tVar 1) tNil)))
                        (tCons (tVar 4) (tCons (tC (V.int 0)) (tCons (tC (V.int 1)) tNil)))))))
                (tDrop
                  (tCall spPut [] E0
                    (tCons (tVar 2)
                      (tCons (tVar 3) (tCons (tVar 4) (tCons (tVar 5) (tCons (tC (V.int 1)) tNil))))))))
        D [some (.ref q), some (.int (n : Nat)), some (.ref p), some (.ref qk), some val, some (.int shift)] Hb := fun D shift hsh hD => by
      refine ⟨_, rfl, _, rfl, _, rfl, Gb, [dO o, dI n], _, xb.gh, .cons (ro.mono xb.g) (.cons (.int _) .nil), ⟨(o, n), rfl, ⟨hc3, hc4, hc5⟩, rfl⟩, fun vx Gx Hx xx rx => ?_⟩
      have X := xb.trans xx
      refine ⟨_, rfl, Gx, p, kvs', st, vx, val, exch o n, pl, 0, 1, rfl, xx.gh, Ow.ext X, rx, rv.mono X.g, ⟨by decide, by decide⟩, hc1, hc6, fun H5 kvs5 e5 O5 => ?_⟩
      refine ⟨_, rfl, _, rfl, _, rfl, _, rfl, Gx, p, kvs5, _, .ref qk, val, o, pl, shift, 1, rfl, e5, O5, ro.mono X.g, rv.mono X.g, ⟨by decide, by decide⟩, hc2, hc6, fun H6 kvs6 e6 O6 => ?_⟩
      subst hsh
      exact hD Gx kvs6 _ _ _ H6 (Ex.trans eGW X.g) e6 O6
    cases hf : fall o n with
    | true => exact iteT ⟨1, rfl, rest _ (-1) (by rw [hf]; rfl) fun G' kvs' s3 s4 s5 H' a b c => ⟨G', kvs', s3, s4, s5, rfl, a, b, c⟩⟩
    | false => exact iteF (rest _ 1 (by rw [hf]; rfl) fun G' kvs' s3 s4 s5 H' a b c => ⟨G', kvs', s3, s4, s5, rfl, a, b, c⟩)
  · subst hσ
    rw [hlen, List.take_length] at O
    rw [← hG1] at ea
    obtain ⟨G3, H3, eG3, eH3, lx3, nn3, ne3, q3, fin3⟩ := lk_out (Hs := upd H p (.dT [])) (u := .dT kvs) True.intro hq x1 hod (fun z o' u' z2 => by rw [z] at z2; cases z2) ea eb
    refine fin3 (fun Hz => (tRet (tVar 2)) _ _ Hz) ?_
    have gq' : G' q ≠ none := ne_none (ea _ _ upd_same)
    have O3 : OwnS G3 H3 p kvs' (sm.foldl (byF n) []) := O.re (fun a ob ha h hg => by
      rw [ne3 a fun z => gq' (by rw [← z]; exact hg)]
      exact h) fun a ha h _ => (nn3 a).mpr h
    exact ⟨_, rfl, k p kvs' H3 (Ex.trans eG3 eH3) (O3.less eG3)⟩
/-! ### the other way round -/
def backF (o : Od) (found : List Int) (i : Nat) : List Int := found.set ((o.getD i 0).toNat - 1) ((i : Int) + 1)
def backM (o : Od) : Od := (List.range o.length).foldl (backF o) (List.replicate o.length 0)
def backOk (o : Od) : Bool := decide (o.length ≤ 100) && o.all fun t => decide (1 ≤ t ∧ t ≤ (o.length : Int))
abbrev RBack := RF (fun o : Od => [dO o]) (fun o => backOk o = true) fun o => dO (backM o)
theorem back_len (o : Od) : ∀ l : List Nat, ∀ f : List Int, (l.foldl (backF o) f).length = f.length
  | [], _ => rfl
  | i :: l, f => by
    rw [List.foldl_cons, back_len o l]
    unfold backF
    rw [List.length_set]
theorem does_forET {K : PySem.W.Frag} {G0 H0 : Hp} {ρ : Rho} {ds : List PyData} {tb : TS} {ta : TA} {m n : Nat} (hl : AV H0 ta ρ [.tuple ds]) (ρs : Nat → Rho) (h0 : ρs 0 = ρ) (hs : ∀ i d, ds[i]? = some d → Does G0 H0 tb (((ρs i).set m (.imm (.int (i : Nat)))).set n (.imm d)) (.nx (ρs (i + 1)))) :
    Does G0 H0 (tFor (iEnumT K ta) (gTup K 2 (gCons (gName m) (gCons (gName n) gNil))) tb) ρ (.nx (ρs ds.length)) := fun D σ G H x S k => hl σ G H x.gh S _ fun v G1 H1 x1 r1 => by
  cases r1 with
  | cons rr0 rr =>
    cases rr
    obtain ⟨a, xs, rfl, h, ra⟩ := rr0.tup_inv
    have hlen := ra.len
    refine ⟨a, xs, rfl, SqT.of (x1.gh _ _ h), for_it (walk_enumT (K := K) (a := a) (xs := xs)) (fun i σ' H' => ∃ G', Ext G0 H0 G' H' ∧ Ex G1 G' ∧ Slots H0 (ρs i) σ' G' H') ⟨G1, x.trans x1, Ex.refl _, by rw [h0]; exact S.ext x1⟩
      (fun i σ' H' _ ⟨G', x', e', _⟩ => SqT.of (x'.gh _ _ (e' _ _ h))) (fun i v σ' H' H2 hi ⟨G', x', e', S'⟩ y => ?_) fun σ' H' ⟨G', x', e', S'⟩ => ?_⟩
    · obtain ⟨T, y1, y2, rfl, hT, rfl, f1, f2⟩ := y
      cases f1
      obtain ⟨d, hd', rd⟩ := ra.ofV f2
      have xT := Ext.hs x'.gh (Ex.new (o := .tup [.int (i : Nat), y2]) hT)
      refine ⟨T, [.int (i : Nat), y2], rfl, SqT.of upd_same, rfl, _, _, rfl, _, _, rfl, rfl, ?_⟩
      have S2 := ((S'.ext xT).setImm (i := m) (.int (i : Nat))).setImm (i := n) (rd.mono e')
      exact hs i d hd' _ _ G' _ (x'.trans xT) S2 fun σ2 G2 H2 x2 e2 S2 => ⟨G2, x2, Ex.trans e' e2, S2⟩
    · rw [hlen] at S'
      exact k _ G' _ x' (Ex.trans x1.g e') S'
theorem ok_back (T : Txt K mg) : FnOk P w K mg base CX0 1 T.back.f T.back.fd ["order"] (PSp RBack) := by
  refine T.back.F.ok sc_back (fun vs H Q E h => psp_len (rf_len fun _ => rfl) h) (fun cdv A outer s H vs Q E hr h => ?_)
  refine ⟨_, (pss_cons (ps_set (i := 1) sc_back.nd rfl (Or.inl rfl) (pe_op op_rep (pe_lst (pa_cons pe_int pa_nil)) (pe_callB (k_len (K := K) rfl) (by rfl) T.len (by decide +kernel) (pa_cons (pv 0) pa_nil))))
      (pss_cons (ps_for PassesOwn.never rfl (pi_enumT (by rfl) T.enumerate (pa_cons (pv 0) pa_nil)) (pg_tup rfl (pgs_cons (pg_name (i := 2) sc_back.nd rfl (Or.inl rfl)) (pgs_cons (pg_name (i := 3) sc_back.nd rfl (Or.inl rfl)) pgs_nil)))
        (pss_one (ps_asg (pe_op op_add (pv 2) pe_int) (pg_sub (pv 1) (pe_op op_sub (pv 3) pe_int) set_list))))
      (pss_one (ps_ret (pe_callTy (k_tuple (K := K) rfl) (by rfl) T.tuple (by decide +kernel) (pa_cons (pv 1) pa_nil)))))), ?_⟩
  refine rd_does 3 1 h rfl (rf_len fun _ => rfl) fun G0 H0 ds d hR => ?_
  obtain ⟨o, rfl, hok, rfl⟩ := hR
  unfold backOk at hok
  simp only [Bool.and_eq_true, decide_eq_true_eq, List.all_eq_true] at hok
  obtain ⟨hl, ho⟩ := hok
  refine does_seq (does_own (nl_rep (n := o.length) (nl_lst (av_cons dv_int av_nil) (by show 1 ≤ 100000; decide)) ((dv_lenT (dv_var rfl).r).r.is (by rw [List.length_map])) (by omega))) ?_
  refine does_seq (does_forET (ds := o.map .int) (av_cons (dv_var rfl) av_nil) (fun i => [.imm (dO o), .own (((List.range i).foldl (backF o) (List.replicate o.length 0)).map .int), .any, .any]) ?_ fun i d hd => ?_) ?_
  · show _ = [Sl.imm (dO o), Sl.own (List.replicate o.length (PyData.int 0)), Sl.any, Sl.any]
    simp
  · obtain ⟨t, ht, rfl⟩ := at_map hd
    obtain ⟨h1, h2⟩ := ho t (List.mem_of_getElem? ht)
    refine does_wk (does_set (n := t.toNat - 1) rfl (dv_ii (dv_var rfl).r dv_int.r) (dv_ii (dv_var rfl).r dv_int.r).r (by omega) ?_) ?_
    · rw [List.length_map, back_len, List.length_replicate]
      omega
    · rw [List.range_succ, List.foldl_append]
      show Wk _ [_, .own (List.map _ (backF o _ i)), _, _]
      unfold backF
      rw [List.map_set, getD_some ht]
      exact .keep (.keep (.drop (.drop .nil)))
  · rw [List.length_map]
    exact does_ret (dv_tupO rfl)
end
end U
namespace U
open PySem L2 Evl
/-! ### what a Keeping holds -/
def dom : List Od := allO 1 ++ allO 2 ++ allO 3 ++ allO 4
def inv (o : Od) : Nat := ((List.range o.length).map fun i => ((o.take i).filter fun z => decide (z > o.getD i 0)).length).foldl (· + ·) 0
theorem nodup_sub {α : Type} [DecidableEq α] : ∀ {l m : List α}, l.Nodup → (∀ x, x ∈ l → x ∈ m) → l.length ≤ m.length
  | [], _, _, _ => Nat.zero_le _
  | a :: l, m, nd, h => by
    obtain ⟨n1, n2⟩ := List.nodup_cons.mp nd
    have ha : a ∈ m := h a List.mem_cons_self
    have h2 : ∀ x, x ∈ l → x ∈ m.erase a := fun x hx => (List.mem_erase_of_ne fun e => n1 (by rw [← e]; exact hx)).mpr (h x (List.mem_cons.mpr (Or.inr hx)))
    have q := nodup_sub n2 h2
    have q2 := List.length_erase_of_mem ha
    have q3 : 0 < m.length := List.length_pos_of_mem ha
    rw [List.length_cons]
    omega
abbrev KnL (G : Hp) : List (List Key × V) → List Od → Prop := Paired fun a o => a.1 = ko o ∧ RpS G a.2 (kept o)
structure Kn (G : Hp) (kvs : List (List Key × V)) (os : List Od) : Prop where
  ks : KnL G kvs os
  nd : os.Nodup
  sb : ∀ o, o ∈ os → o ∈ dom
theorem Kn.len {G : Hp} {kvs : List (List Key × V)} {os : List Od} (h : Kn G kvs os) : kvs.length ≤ dom.length := by
  have q : kvs.length = os.length := Paired.length h.ks
  rw [q]
  exact nodup_sub h.nd h.sb
theorem kn_get {G : Hp} {kvs : List (List Key × V)} {os : List Od} (h : KnL G kvs os) (o : Od) : (valV kvs (ko o) = none ∧ o ∉ os) ∨ ∃ v, valV kvs (ko o) = some v ∧ RpS G v (kept o) := by
  induction h with
  | nil => exact Or.inl ⟨rfl, by simp⟩
  | @cons a b l1 l2 hab t ih =>
    by_cases e : b = o
    · subst e
      exact Or.inr ⟨a.2, valV_pos hab.1, hab.2⟩
    · rw [valV_neg fun z => e (ko_inj (by rw [← hab.1, z]))]
      rcases ih with ⟨h1, h2⟩ | h2
      · exact Or.inl ⟨h1, fun m => (List.mem_cons.mp m).elim (fun z => e z.symm) h2⟩
      · exact Or.inr h2
theorem kn_any {G : Hp} {kvs : List (List Key × V)} {os : List Od} (h : KnL G kvs os) (o : Od) : (kvs.any fun kv => decide (kv.1 = ko o)) = decide (o ∈ os) := by
  induction h with
  | nil => rfl
  | @cons a b l1 l2 hab t ih =>
    rw [List.any_cons, ih]
    by_cases e : b = o
    · subst e
      rw [decide_eq_true hab.1, Bool.true_or, decide_eq_true List.mem_cons_self]
    · rw [decide_eq_false fun z => e (ko_inj (by rw [← hab.1, z])), Bool.false_or]
      exact decide_eq_decide.mpr ⟨fun z => List.mem_cons.mpr (Or.inr z), fun z => (List.mem_cons.mp z).resolve_left (Ne.symm e)⟩
theorem Kn.put {G : Hp} {kvs : List (List Key × V)} {os : List Od} {o : Od} {v : V} (h : Kn G kvs os) (ho : o ∈ dom) (hv : RpS G v (kept o)) : ∃ os', Kn G (putK kvs (ko o) v) os' := by
  by_cases m : o ∈ os
  · refine ⟨os, ?_, h.nd, h.sb⟩
    unfold putK
    rw [kn_any h.ks, decide_eq_true m, if_pos rfl]
    have hk := h.ks
    clear h m
    induction hk with
    | nil => exact .nil
    | @cons a b l1 l2 hab t ih =>
      refine .cons ?_ ih
      dsimp only
      by_cases z : a.1 = ko o
      · rw [if_pos z]
        have e : b = o := ko_inj (by rw [← hab.1, z])
        exact ⟨hab.1, by rw [e]; exact hv⟩
      · rw [if_neg z]
        exact hab
  · refine ⟨os ++ [o], ?_, nd_snoc h.nd m, fun x hx => ?_⟩
    · unfold putK
      rw [kn_any h.ks, decide_eq_false m, if_neg Bool.false_ne_true]
      exact Paired.snoc h.ks ⟨rfl, hv⟩
    · rcases List.mem_append.mp hx with z | z
      · exact h.sb x z
      · rw [List.mem_singleton.mp z]
        exact ho
theorem Kn.mono {G G' : Hp} {kvs : List (List Key × V)} {os : List Od} (h : Kn G kvs os) (e : ∀ v s, RpS G v s → RpS G' v s) : Kn G' kvs os := ⟨Paired.mapP h.ks fun _ _ z => ⟨z.1, e _ _ z.2⟩, h.nd, h.sb⟩
structure KeepAt (C : Addr) (G H : Hp) (a d : Addr) : Prop where
  ins : ∃ dx, H a = some (.ins C dx [("known", .ref d)])
  dic : ∃ kvs os, H d = some (.dT kvs) ∧ Kn G kvs os
  nd : G d = none
theorem KeepAt.re {C : Addr} {G H G' H' : Hp} {a d : Addr} (k : KeepAt C G H a d) (ha : H' a = H a) (hd : H' d = H d) (gd : G' d = none) (e : ∀ v s, RpS G v s → RpS G' v s) : KeepAt C G' H' a d := by
  obtain ⟨⟨dx, h1⟩, ⟨kvs, os, h2, h3⟩, h4⟩ := k
  exact ⟨⟨dx, by rw [ha]; exact h1⟩, ⟨kvs, os, by rw [hd]; exact h2, h3.mono e⟩, gd⟩
theorem KeepAt.hd {C : Addr} {G H : Hp} {a d : Addr} (k : KeepAt C G H a d) : H d ≠ none := by
  obtain ⟨_, ⟨kvs, os, h2, _⟩, _⟩ := k
  exact ne_none h2
theorem KeepAt.ext {C : Addr} {G H G' H' : Hp} {a d : Addr} (k : KeepAt C G H a d) (x : Ext G H G' H') : KeepAt C G' H' a d := by
  obtain ⟨⟨dx, h1⟩, ⟨kvs, os, h2, h3⟩, h4⟩ := id k
  exact k.re (by rw [h1, x.h _ _ h1]) (by rw [h2, x.h _ _ h2]) (x.fr d h4 (ne_none h2)) fun v s r => r.mono x.g
/-- everything but the dict at d is as it was -/
structure ExtK (d : Addr) (G H G' H' : Hp) : Prop where
  h : ∀ b ob, H b = some ob → b ≠ d → H' b = some ob
  ne : ∀ b, H b ≠ none → H' b ≠ none
  g : Ex G G'
  gh : Ex G' H'
  fr : ∀ b, G b = none → H b ≠ none → G' b = none
theorem Ext.k {G H G' H' : Hp} (d : Addr) (x : Ext G H G' H') : ExtK d G H G' H' := ⟨fun b ob h _ => x.h b ob h, fun b h => Ex.ne x.h h, x.g, x.gh, x.fr⟩
theorem ExtK.trans {d : Addr} {G H G1 H1 G2 H2 : Hp} (x : ExtK d G H G1 H1) (y : ExtK d G1 H1 G2 H2) : ExtK d G H G2 H2 :=
  ⟨fun b ob h n => y.h b ob (x.h b ob h n) n, fun b h => y.ne b (x.ne b h), Ex.trans x.g y.g, y.gh, fun b h1 h2 => y.fr b (x.fr b h1 h2) (x.ne b h2)⟩
/-- one object more stands still -/
def g1 (q : Addr) (G H : Hp) : Hp := fun b => if b = q then H q else G b
theorem g1_ex {q : Addr} {G H : Hp} (e : Ex G H) : Ex G (g1 q G H) ∧ Ex (g1 q G H) H := by
  refine ⟨fun b ob h => ?_, fun b ob h => ?_⟩
  · unfold g1
    split
    · rename_i z
      rw [← z]
      exact e b ob h
    · exact h
  · unfold g1 at h
    split at h
    · rename_i z
      rw [z]
      exact h
    · exact e b ob h
theorem g1_at {q : Addr} {G H : Hp} : g1 q G H q = H q := if_pos rfl
theorem g1_ne {q b : Addr} {G H : Hp} (h : b ≠ q) : g1 q G H b = G b := if_neg h
def joinG (G G' : Hp) : Hp := fun b => match G' b with
  | some o => some o
  | none => G b
theorem join_ex {G G' : Hp} (h : ∀ b, G b ≠ none → G' b = none) : Ex G (joinG G G') ∧ Ex G' (joinG G G') := by
  refine ⟨fun b ob e => ?_, fun b ob e => ?_⟩
  · unfold joinG
    rw [h b (ne_none e)]
    exact e
  · unfold joinG
    rw [e]
theorem join_in {G G' H : Hp} (e : Ex G H) (e' : Ex G' H) : Ex (joinG G G') H := fun b ob h => by
  unfold joinG at h
  cases z : G' b with
  | some o =>
    rw [z] at h
    cases h
    exact e' b _ z
  | none =>
    rw [z] at h
    exact e b ob h
theorem join_none {G G' : Hp} {b : Addr} (h : G b = none) (h' : G' b = none) : joinG G G' b = none := by
  unfold joinG
  rw [h']
  exact h
/-! ### the finite check -/
def putF (c : Int) (m : Sm) (bl : Od × Poly) : Sm := kput m bl.1 bl.2 0 (0 - c)
def putC (m : Sm) (bl : Od × Poly) : Bool := chk m && decide (bl.2.length ≤ 100)
def at1 (pl : Poly) : Int := (getK pl 1).getD 0
def outF (k : Nat) (made : Sm) (op : Od × Poly) : Sm := if fall op.1 k && !decide (at1 op.2 = 0) then (kept op.1).foldl (putF (at1 op.2)) made else made
def outC (k v : Nat) (made : Sm) (op : Od × Poly) : Bool := decide (1 ≤ k) && decide (k < op.1.length) && (if fall op.1 k && !decide (at1 op.2 = 0) then
  decide (op.1 ∈ dom) && decide (inv op.1 < v) && fOk (putF (at1 op.2)) putC made (kept op.1) && decide (-(2 ^ 64) < 0 - at1 op.2) && decide (0 - at1 op.2 < 2 ^ 64) else true)
def stepOk (o : Od) : Bool := decide (inv o < 7) && decide (o.length ≤ 4) && decide (1 ≤ o.length) && match fallsOf o with
  | [] => decide (kept o = [(o, [(0, 1)])])
  | k :: _ =>
    let b := kept (exch o k)
    let m := b.foldl (outF k) (byPlain b k)
    decide (exch o k ∈ dom) && decide (inv (exch o k) < inv o) && decide (1 ≤ k) && decide (k < o.length) && okBy k b && fOk (outF k) (outC k (inv o)) (byPlain b k) b && okWo m && decide (noNought m = kept o)
theorem dom_ok : ∀ o, o ∈ dom → stepOk o = true := by decide +kernel
end U
namespace U
open PySem L2 Evl
theorem Slots.up {H0 G H G' H' : Hp} {ρ : Rho} {σ : L2.St} (S : Slots H0 ρ σ G H) (h : U.noOwn ρ = true) (e : Ex G G') : Slots H0 ρ σ G' H' := by
  refine ⟨S.len, fun i sl e2 => ?_, fun i j p ds es h1 => absurd h1 (noOwn_at h i ds)⟩
  obtain ⟨s, hs, k⟩ := S.ok i sl e2
  refine ⟨s, hs, ?_⟩
  cases sl with
  | imm d =>
    obtain ⟨v, hv, r⟩ := k
    exact ⟨v, hv, r.mono e⟩
  | any => exact True.intro
  | own ds => exact absurd e2 (noOwn_at h i ds)
theorem anyS {H0 G H : Hp} (σ : L2.St) : Slots H0 (List.replicate σ.length .any) σ G H := by
  refine ⟨by rw [List.length_replicate], fun i sl e => ?_, fun i j p ds es h1 => ?_⟩
  · obtain ⟨hi, e2⟩ := List.getElem?_eq_some_iff.mp e
    rw [List.length_replicate] at hi
    rw [List.getElem_replicate] at e2
    subst e2
    exact ⟨σ[i], List.getElem?_eq_getElem hi, True.intro⟩
  · obtain ⟨hi, e2⟩ := List.getElem?_eq_some_iff.mp h1
    rw [List.getElem_replicate] at e2
    cases e2
/-! ### the state within Keeping.found -/
structure Fd (C a d p : Addr) (Gs Hs G H : Hp) (kvs : List (List Key × V)) (s : Sm) : Prop where
  x : ExtK d Gs Hs G H
  k : KeepAt C G H a d
  o : OwnS G H p kvs s
  f : ∀ b, Ow p kvs b → Hs b = none
  hd : Hs d ≠ none
section
variable {C a d p : Addr} {Gs Hs G H G' H' : Hp} {kvs kvs' : List (List Key × V)} {s s' : Sm}
theorem Fd.nod (F : Fd C a d p Gs Hs G H kvs s) {b : Addr} (h : Ow p kvs b) : b ≠ d := fun z => F.hd (by rw [← z]; exact F.f b h)
theorem Fd.e (F : Fd C a d p Gs Hs G H kvs s) : Ex G H := F.x.gh
theorem Fd.ext (F : Fd C a d p Gs Hs G H kvs s) (x : Ext G H G' H') : Fd C a d p Gs Hs G' H' kvs s := ⟨F.x.trans (x.k d), F.k.ext x, F.o.ext x, F.f, F.hd⟩
theorem Fd.call (F : Fd C a d p Gs Hs G H kvs s) (x : ExtK d G H G' H') (k : KeepAt C G' H' a d) : Fd C a d p Gs Hs G' H' kvs s :=
  ⟨F.x.trans x, k, F.o.re (fun b ob ho h _ => x.h b ob h (F.nod ho)) fun b _ h1 h2 => x.fr b h1 h2, F.f, F.hd⟩
theorem Fd.put {H5 : Hp} (F : Fd C a d p Gs Hs G H kvs s) (e5 : Ex (Wo H p kvs) H5) (o5 : OwnS (Wo H p kvs) H5 p kvs' s') : Fd C a d p Gs Hs G H5 kvs' s' := by
  have wn : ∀ {b : Addr} {ob : HO}, H b = some ob → ¬ Ow p kvs b → H5 b = some ob := fun {b ob} h n => e5 b ob (by rw [wo_ne n]; exact h)
  have hw : ∀ b, ¬ Ow p kvs b → H b ≠ none → H5 b ≠ none := fun b n h => Ex.ne e5 (by rw [wo_ne n]; exact h)
  have nd : ¬ Ow p kvs d := fun z => F.nod z rfl
  obtain ⟨⟨dx, h1⟩, ⟨kd, os, h2, h3⟩, h4⟩ := id F.k
  have na : ¬ Ow p kvs a := fun z => by
    obtain ⟨_, ob, h5, h6⟩ := F.o.ow z
    rw [h1] at h5
    cases h5
    exact h6
  refine ⟨⟨fun b ob h n => ?_, fun b h => ?_, F.x.g, Ex.trans (F.o.gw F.e) e5, F.x.fr⟩, F.k.re (by rw [h1, wn h1 na]) (by rw [h2, wn h2 nd]) h4 (fun v s r => r), o5.less (F.o.gw F.e), fun b hb => ?_, F.hd⟩
  · exact wn (F.x.h b ob h n) fun z => by rw [F.f b z] at h; cases h
  · exact hw b (fun z => h (F.f b z)) (F.x.ne b h)
  · have q := (o5.ow hb).1
    by_cases z : Ow p kvs b
    · exact F.f b z
    · rw [wo_ne z] at q
      by_cases y : Hs b = none
      · exact y
      · exact absurd q (F.x.ne b y)
theorem Fd.lock {q : Addr} {kq : List (List Key × V)} {od : Obj} (F : Fd C a d p Gs Hs G H kvs s) (hq : Rd G q (.dT kq)) (ho : H q = some (.dT kq) ∨ H q = some (.frz od (.dT kq))) :
    Fd C a d p (upd G q (.frz od (.dT kq))) (upd (Wo H p kvs) q (.frz od (.dT kq))) (upd G q (.frz od (.dT kq))) (upd H q (.frz od (.dT kq))) kvs s := by
  obtain ⟨e1, l1, n1⟩ := lk_in (u := .dT kq) True.intro hq F.e ho
  have gq : G q ≠ none := by rcases hq with h | ⟨_, h⟩ <;> exact ne_none h
  obtain ⟨⟨dx, h1⟩, ⟨kd, os, h2, h3⟩, h4⟩ := id F.k
  have nqd : d ≠ q := fun z => gq (by rw [← z]; exact h4)
  have nqa : a ≠ q := fun z => by rcases ho with h | h <;> rw [← z, h1] at h <;> cases h
  have now : ∀ b, Ow p kvs b → b ≠ q := fun b hb z => gq (by rw [← z]; exact (F.o.ow hb).1)
  have wex : ∀ b ob, upd (Wo H p kvs) q (.frz od (.dT kq)) b = some ob → upd H q (.frz od (.dT kq)) b = some ob := fun b ob h => by
    by_cases z : b = q
    · rw [z, upd_same] at h ⊢
      exact h
    · rw [upd_ne z] at h ⊢
      exact wo_ex b ob h
  refine ⟨⟨fun b ob h _ => wex b ob h, fun b h => Ex.ne wex h, Ex.refl _, e1, fun b h _ => h⟩, F.k.re (upd_ne nqa) (upd_ne nqd) ((n1 d).mpr h4) (fun v s r => r.lx l1), F.o.re (fun b ob hb h _ => by rw [upd_ne (now b hb)]; exact h) (fun b _ h _ => (n1 b).mpr h), fun b hb => ?_, ?_⟩
  · rw [upd_ne (now b hb)]
    exact wo_ow hb
  · rw [upd_ne nqd, wo_ne (fun z => F.nod z rfl)]
    exact ne_none h2
theorem Fd.unlock {q : Addr} {kq : List (List Key × V)} {od : Obj} {G3 H3 : Hp} (F : Fd C a d p Gs Hs G H kvs s) (hq : Rd G q (.dT kq)) (ho : H q = some (.dT kq) ∨ H q = some (.frz od (.dT kq)))
    (F2 : Fd C a d p (upd G q (.frz od (.dT kq))) (upd (Wo H p kvs) q (.frz od (.dT kq))) G' H' kvs' s') (eG : Ex G G3) (eH : Ex G3 H3) (lx : Lx G' G3) (nn : ∀ b, G3 b = none ↔ G' b = none) (ne : ∀ b, b ≠ q → H3 b = H' b) (hq3 : H3 q = H q) :
    Fd C a d p Gs Hs G3 H3 kvs' s' := by
  obtain ⟨e1, l1, n1⟩ := lk_in (u := .dT kq) True.intro hq F.e ho
  have gq : G q ≠ none := by rcases hq with h | ⟨_, h⟩ <;> exact ne_none h
  have hqn : H q ≠ none := by rcases ho with h | h <;> exact ne_none h
  obtain ⟨⟨dx, h1⟩, ⟨kd, os, h2, h3⟩, h4⟩ := id F.k
  obtain ⟨⟨dx', h1'⟩, ⟨kd', os', h2', h3'⟩, h4'⟩ := id F2.k
  have nqd : d ≠ q := fun z => gq (by rw [← z]; exact h4)
  have nqa : a ≠ q := fun z => by rcases ho with h | h <;> rw [← z, h1] at h <;> cases h
  have gq' : G' q ≠ none := Ex.ne F2.x.g (by rw [upd_same]; exact fun z => nomatch z)
  have now : ∀ b, Ow p kvs' b → b ≠ q := fun b hb z => gq' (by rw [← z]; exact (F2.o.ow hb).1)
  have hs2 : ∀ b, b ≠ q → ¬ Ow p kvs b → upd (Wo H p kvs) q (.frz od (.dT kq)) b = H b := fun b z n => by rw [upd_ne z, wo_ne n]
  refine ⟨⟨fun b ob h n => ?_, fun b h => ?_, Ex.trans F.x.g eG, eH, fun b h1 h2 => ?_⟩, F2.k.re (ne a nqa) (ne d nqd) ((nn d).mpr h4') (fun v s r => r.lx lx), F2.o.re (fun b ob hb h _ => by rw [ne b (now b hb)]; exact h) (fun b _ h _ => (nn b).mpr h), fun b hb => ?_, F.hd⟩
  · have q1 := F.x.h b ob h n
    by_cases z : b = q
    · rw [z, hq3, ← z]
      exact q1
    · rw [ne b z]
      refine F2.x.h b ob ?_ n
      rw [hs2 b z fun y => by rw [F.f b y] at h; cases h]
      exact q1
  · by_cases z : b = q
    · rw [z, hq3]
      exact hqn
    · rw [ne b z]
      refine F2.x.ne b ?_
      rw [hs2 b z fun y => h (F.f b y)]
      exact F.x.ne b h
  · have q1 := F.x.fr b h1 h2
    have z : b ≠ q := fun z => gq (by rw [← z]; exact q1)
    refine (nn b).mpr (F2.x.fr b ((n1 b).mpr q1) ?_)
    rw [hs2 b z fun y => h2 (F.f b y)]
    exact F.x.ne b h2
  · have q1 := F2.f b hb
    have z := now b hb
    rw [upd_ne z] at q1
    by_cases y : Ow p kvs b
    · exact F.f b y
    · rw [wo_ne y] at q1
      by_cases w : Hs b = none
      · exact w
      · exact absurd q1 (F.x.ne b w)
end
end U
namespace U
open PySem L2 Evl
section
variable {P : Program} {w : World} {K : PySem.W.Frag} {mg : Str → Option Value} {base : Heap}
theorem kn_sz {G : Hp} {kvs : List (List Key × V)} {os : List Od} (h : Kn G kvs os) : kvs.length < sizeLine := by
  have q := h.len
  have q2 : dom.length = 33 := by decide +kernel
  exact sz_lt (by omega)
theorem iteT' {c : Bool} {A B : Prop} (hc : c = true) (h : A) : if c = true then A else B := by rw [if_pos hc]; exact h
theorem iteF' {c : Bool} {A B : Prop} (hc : c = false) (h : B) : if c = true then A else B := by rw [if_neg (by rw [hc]; decide)]; exact h
def spOf (C : Addr) (L : Nat) : Sp := fun vs H Q _ => ∃ a vo G d o, vs = [.ref a, vo] ∧ KeepAt C G H a d ∧ Ex G H ∧ Rp H vo (dO o) ∧ o ∈ dom ∧ inv o < L ∧ ∀ v G' H', ExtK d G H G' H' → KeepAt C G' H' a d → RpS G' v (kept o) → Q v H'
theorem ok_found_of (T : Txt K mg) (L : Nat) (ih : FnOk P w K mg base CX0 (4 + 2 * L) T.K_of.f T.K_of.fd ["self", "order"] (spOf T.C L)) :
    FnOk P w K mg base CX0 (5 + 2 * L) T.K_found.f T.K_found.fd ["self", "order"] (spOf T.C (L + 1)) := by
  rw [show 5 + 2 * L = 4 + 2 * L + 1 by omega]
  refine T.K_found.F.ok sc_K_found (fun vs H Q E h => ?_) (fun cdv A outer s H vs Q E hr h => ?_)
  · obtain ⟨a, vo, G, d, o, rfl, _⟩ := h
    rfl
  refine ⟨_, (pss_cons (ps_setLc (i := 2) (own := [("k", 9)]) (g := gName 9) rfl sc_K_found.nd rfl rfl (sw_true rfl rfl rfl (by decide +kernel)) (pi_range2 (by rfl) T.range (pa_cons pe_int (pa_cons (pe_callB (k_len (K := K) rfl) (by rfl) T.len (by decide +kernel) (pa_cons (pv 1) pa_nil)) pa_nil))) (blkOk_by (N := ["self", "order", "some", "base", "made", "one", "poly", "below", "lower", "k"]) (sc := defScope s_K_found) (by decide +kernel)) (fun _ _ _ _ _ => (pg_name (i := 9) sc_K_found.nd rfl (by first | exact Or.inl rfl | exact Or.inr rfl))) (fun _ _ _ _ _ => (pts_one (pt_val (pe_dn T.is_fall (ok_is_fall T) hr (by omega) (pa_cons (pv 1) (pa_cons (pv 9) pa_nil)))))) (fun _ _ _ _ _ => (pv 9)))
      (pss_cons (ps_if (pt_cmpR (k_eqD (K := K) rfl (hu64 hr)) (pv 2) (pe_lst pa_nil) (nomark _))
        (pss_one (ps_ret (pe_dispT1 (hu_of hr) (pv 1) (pe_disp (pps_cons pe_int pe_int pps_nil) (by rfl) (by rfl) (fun z => by cases z) (by decide)))))
        pss_nil)
      (pss_cons (ps_set (i := 3) sc_K_found.nd rfl (Or.inl rfl) (pe_mt (pv 0) T.clK T.K_of ih hr (by first | decide | omega) (pa_cons (pe_dn T.exchanged (ok_exchanged T) hr (by omega) (pa_cons (pv 1) (pa_cons (pe_ix (k_ixL (K := K) rfl) (pv 2) pe_int (fun _ _ => rfl)) pa_nil))) pa_nil)))
      (pss_cons (ps_set (i := 4) sc_K_found.nd rfl (Or.inl rfl) (pe_dn T.by_plain_kept (ok_by_plain_kept T) hr (by omega) (pa_cons (pv 3) (pa_cons (pe_ix (k_ixL (K := K) rfl) (pv 2) pe_int (fun _ _ => rfl)) pa_nil))))
      (pss_cons (ps_unl (ps_for PassesOwn.never rfl (pi_itemsTL (pv 3)) (pg_tup rfl (pgs_cons (pg_name (i := 5) sc_K_found.nd rfl (Or.inl rfl)) (pgs_cons (pg_name (i := 6) sc_K_found.nd rfl (Or.inl rfl)) pgs_nil)))
        (pss_one (ps_if (PW.pt (pw_and (pt_val (pe_dn T.is_fall (ok_is_fall T) hr (by omega) (pa_cons (pv 5) (pa_cons (pe_ix (k_ixL (K := K) rfl) (pv 2) pe_int (fun _ _ => rfl)) pa_nil)))) (pw_and1 (pt_cmpR op_ne (pe_dget2 (hu_of hr) (pv 6) pe_int pe_int ⟨rfl, rfl, rfl, rfl⟩) pe_int (nomark _)))))
          (pss_one (ps_unl (ps_for PassesOwn.never rfl (pi_itemsTL (pe_mt (pv 0) T.clK T.K_of ih hr (by first | decide | omega) (pa_cons (pv 5) pa_nil))) (pg_tup rfl (pgs_cons (pg_name (i := 7) sc_K_found.nd rfl (Or.inl rfl)) (pgs_cons (pg_name (i := 8) sc_K_found.nd rfl (Or.inl rfl)) pgs_nil)))
            (pss_one (ps_expr (pe_dn T.put (ok_put T) hr (by omega) (pa_cons (pv 4) (pa_cons (pv 7) (pa_cons (pv 8) (pa_cons pe_int (pa_cons (pe_op op_sub pe_int (pe_dget (hu_of hr) (pv 6) pe_int (fun _ _ => rfl))) pa_nil)))))))))))
          pss_nil))))
      (pss_one (ps_ret (pe_dn T.without_noughts (ok_without_noughts T) hr (by omega) (pa_cons (pv 4) pa_nil))))))))), ?_⟩
  obtain ⟨a, vo, G, d, o, rfl, kp, e, ro, ho, hi, k⟩ := h
  have st := dom_ok o ho
  unfold stepOk at st
  simp only [Bool.and_eq_true, decide_eq_true_eq] at st
  obtain ⟨⟨⟨_, hl4⟩, hl1⟩, st⟩ := st
  obtain ⟨ao, xs, rfl, hao, rao⟩ := ro.tup_inv
  obtain rfl := rao.ints
  have S0 : Slots H [.any, .imm (dO o), .any, .any, .any, .any, .any, .any, .any, .any] [some (.ref a), some (.ref ao), none, none, none, none, none, none, none, none] H H := (anyS [some (.ref a), some (.ref ao), none, none, none, none, none, none, none, none]).setImm (i := 1) ro
  -- some
  refine q_dv (d := dLs ((fallsOf o).map fun k : Nat => (k : Int))) (NL.dv (ds := ((fallsOf o).map fun k : Nat => (k : Int)).map dI) ((nl_lcRX (n := o.length - 1) (ar_cons dv_int.r (ar_cons (dv_lenT (dv_var rfl).r).r ar_nil)) (fun i => fall o (i + 1)) (fun i => .int (1 + (i : Nat))) ?_ ?_ (fun i hi => ?_) fun i hi _ => ?_).is ?_)) (Ex.refl H) S0 fun v2 G1 H1 x1 r2 => ?_
  · rw [List.length_map]
    omega
  · rw [List.length_map]
    exact ⟨by decide, by decide, by omega, by omega⟩
  · have ei : (1 : Int) + (i : Nat) = ((i + 1 : Nat) : Int) := by omega
    exact tv_val (dv_call (av_cons (dv_var rfl) (av_cons ((dv_var rfl).is (congrArg PyData.int ei)) av_nil)) ⟨(o, i + 1), rfl, ⟨by show 1 ≤ i + 1; omega, by show i + 1 < o.length; omega⟩, rfl⟩).r
  · exact dv_var rfl
  · unfold fallsOf upTo
    rw [List.filter_map, List.map_map, List.map_map]
    refine List.map_congr_left fun i _ => ?_
    show PyData.int _ = PyData.int _
    congr 1
    show (1 : Int) + (i : Nat) = ((i + 1 : Nat) : Int)
    omega
  obtain ⟨a2, xs2, rfl, hg2, ra2⟩ := r2.lst_inv
  obtain rfl := ra2.ints
  have h2 := x1.gh _ _ hg2
  -- if some == []
  refine ⟨_, rfl, by show 0 ≤ sizeLine; decide, fun N hN => ?_⟩
  have eN := Ex.new (o := .lst []) hN
  refine ⟨_, dLs [], ((r2.mono x1.gh).mono eN).dp, Rp.dp (.lst upd_same .nil), encLs.shaped (by decide) _, encLs.shaped (by decide) _, _, rfl, ?_⟩
  rw [encLs.eqv]
  have hx : Ex H (upd H1 N (.lst [])) := Ex.trans x1.h eN
  have h2a := eN _ _ h2
  have hao' := hx _ _ hao
  generalize upd H1 N (.lst []) = Ha at hx eN h2a hao' ⊢
  have kpa := kp.ext (Ext.hs e hx)
  have ea := Ex.trans e hx
  have xa : ExtK d G H G Ha := (Ext.hs e hx).k d
  obtain ⟨⟨dx, ha⟩, ⟨kd, os, hd, kn⟩, gd⟩ := id kpa
  cases hf : fallsOf o with
  | nil =>
    rw [hf] at st
    have st : kept o = [(o, [(0, 1)])] := of_decide_eq_true st
    refine iteT fun p hp => ⟨_, rfl, fun E1 hE1 => ⟨upd_same, [(Sum.inl 0, V.int 1)], rfl, by decide, ?_⟩⟩
    have npE : E1 ≠ p := fun z => by
      rw [z, upd_same] at hE1
      cases hE1
    have hE : Ha E1 = none := by rw [upd_ne npE] at hE1; exact hE1
    have nop : ao ≠ p := ne_of_none hao' hp
    have noE : ao ≠ E1 := ne_of_none hao' hE
    refine ⟨by rw [upd_ne (Ne.symm npE), upd_ne (Ne.symm npE), upd_same], ao, ko o, rfl, by rw [upd_ne noE, upd_ne noE, upd_ne nop, ko_kV]; exact hao', ?_⟩
    have eq : upd (upd (upd (upd Ha p (.dT [])) E1 (.dK [])) E1 (.dK (mergeK [] [(Sum.inl 0, V.int 1)]))) p (.dT [(ko o, V.ref E1)]) = upd (upd Ha E1 (.dK (encP [(0, 1)]))) p (.dT [(ko o, V.ref E1)]) := by
      funext b
      by_cases z : b = p
      · rw [z, upd_same, upd_same]
      · rw [upd_ne z, upd_ne z]
        by_cases y : b = E1
        · rw [y, upd_same, upd_same]
          rfl
        · rw [upd_ne y, upd_ne y, upd_ne y, upd_ne z]
    show Q (.ref p) (upd (upd (upd (upd Ha p (.dT [])) E1 (.dK [])) E1 (.dK (mergeK [] [(Sum.inl 0, V.int 1)]))) p (.dT [(ko o, V.ref E1)]))
    rw [eq]
    have xE := Ext.new (o := .dK (encP [(0, 1)])) ea hE
    have hp2 : upd Ha E1 (.dK (encP [(0, 1)])) p = none := by rw [upd_ne (Ne.symm npE)]; exact hp
    have xp := xE.trans (Ext.new (o := .dT [(ko o, V.ref E1)]) xE.gh hp2)
    refine k _ _ _ (xa.trans (xp.k d)) (kpa.ext xp) ?_
    rw [st]
    refine ⟨p, _, rfl, Or.inl upd_same, .cons ⟨rfl, E1, rfl, Or.inl ?_⟩ .nil⟩
    rw [upd_ne npE, upd_same]
  | cons n rest =>
    rw [hf] at st h2a
    simp only [Bool.and_eq_true, decide_eq_true_eq] at st
    obtain ⟨⟨⟨⟨⟨⟨⟨c1, c2⟩, c3⟩, c4⟩, c5⟩, c6⟩, c7⟩, c8⟩ := st
    -- base = self.of(exchanged(order, some[0]))
    refine iteF ⟨_, rfl, a, dx, _, rfl, ha, rfl, _, rfl, _, rfl, a2, _, _, _, rfl, rfl, SqL.of h2a, atI_nat (j := 0) rfl, Ha, [dO o, dI n], _, Ex.refl _, .cons (ro.mono hx) (.cons (.int _) .nil), ⟨(o, n), rfl, ⟨hl4, c3, c4⟩, rfl⟩, fun ve G2 H2 x2 r2 => ?_⟩
    have r2 : Rp G2 ve (dO (exch o n)) := r2
    have xb := Ext.hs ea x2.h
    refine ⟨a, ve, G, d, exch o n, rfl, kpa.ext xb, xb.gh, r2.mono x2.gh, c1, by omega, fun v3 G3 H3 x3 kp3 r3 => ?_⟩
    have nad : a2 ≠ d := ne_of h2a hd fun z => nomatch z
    have h2c := x3.h a2 _ (x2.h _ _ h2a) nad
    have X3 : ExtK d G Ha G3 H3 := (xb.k d).trans x3
    -- made = by_plain_kept(base, some[0])
    refine ⟨_, rfl, _, rfl, a2, _, _, _, rfl, rfl, SqL.of h2c, atI_nat (j := 0) rfl, v3, kept (exch o n), n, rfl, r3.mono x3.gh, c5, fun p kvs H4 e4 O4 => ?_⟩
    generalize hb : kept (exch o n) = bs at r3 c5 c6 c7 c8 O4
    obtain ⟨q, bk, rfl, hq, hs⟩ := r3
    have x4 := Ext.hs x3.gh e4
    have F4 : Fd T.C a d p G Ha G3 H4 kvs (byPlain bs n) := ⟨X3.trans (x4.k d), kp3.ext x4, O4.less x3.gh, fun b hb => by
      have z := (O4.ow hb).1
      by_cases y : Ha b = none
      · exact y
      · exact absurd z (X3.ne b y), kpa.hd⟩
    generalize hm0 : byPlain bs n = m0 at c6 c7 c8 F4
    have hlen : bk.length = bs.length := Paired.length hs
    -- for one, poly in base.items()
    refine ⟨_, rfl, q, bk, rfl, Rd.ex F4.e hq, fun od hod => ?_⟩
    have F5 := F4.lock hq hod
    obtain ⟨e5, l5, n5⟩ := lk_in (u := .dT bk) True.intro hq F4.e hod
    have ha2 : upd (Wo H4 p kvs) q (.frz od (.dT bk)) a2 = some (.lst ((((n :: rest).map fun k : Nat => (k : Int))).map V.int)) := by
      have z := e4 _ _ h2c
      rw [upd_ne fun y => by rw [← y, z] at hod; rcases hod with w | w <;> cases w]
      exact F4.o.wk z fun z => z
    have g5q : upd G3 q (.frz od (.dT bk)) q = some (.frz od (.dT bk)) := upd_same
    generalize hG5 : upd G3 q (.frz od (.dT bk)) = G5 at F5 l5 g5q
    generalize hS5 : upd (Wo H4 p kvs) q (.frz od (.dT bk)) = Hs5 at F5 ha2
    refine for_it (walk_itemsT (d := q) (o := od) (kvs := bk)) (fun i σ' H' => ∃ G' kvs' s5 s6 s7 s8, σ' = [some (.ref a), some (.ref ao), some (.ref a2), some (.ref q), some (.ref p), s5, s6, s7, s8, none] ∧ Fd T.C a d p G5 Hs5 G' H' kvs' ((bs.take i).foldl (outF n) m0))
      ⟨G5, kvs, none, none, none, none, rfl, F5⟩ (fun i σ' H' _ ⟨G', _, _, _, _, _, _, F⟩ => F.e _ _ (F.x.g _ _ g5q)) (fun i x σ' H' H'' hi ⟨G', kvs', s5, s6, s7, s8, hσ, F⟩ y => ?_) fun σ' H' ⟨G', kvs', s5, s6, s7, s8, hσ, F⟩ => ?_
    · subst hσ
      obtain ⟨Tp, kk, val, qk, hkv, rfl, hT, hqk, rfl⟩ := y
      obtain ⟨⟨one, pl⟩, hop, hkk, hval⟩ := Paired.at2 hs hkv
      obtain rfl : kk = ko one := hkk
      have hval : RpP G3 val pl := hval
      have hc := fOk_at c6 hop
      unfold outC at hc
      simp only [Bool.and_eq_true, decide_eq_true_eq] at hc
      obtain ⟨⟨_, hc2⟩, hc3⟩ := hc
      rw [show (bs.take (i + 1)).foldl (outF n) m0 = outF n ((bs.take i).foldl (outF n) m0) (one, pl) from foldl_take (outF n) hop m0]
      generalize (bs.take i).foldl (outF n) m0 = st at F hc3 ⊢
      refine ⟨Tp, _, rfl, SqT.of upd_same, rfl, _, _, rfl, _, _, rfl, rfl, ?_⟩
      have eT : Ex H' (upd H' Tp (.tup [.ref qk, val])) := Ex.new hT
      have hqk' := eT _ _ hqk
      have Fb := F.ext (Ext.hs F.e eT)
      generalize upd H' Tp (.tup [.ref qk, val]) = Hb at eT Fb hqk'
      have nadb : a2 ≠ d := nad
      refine ⟨_, rfl, _, rfl, a2, _, _, _, rfl, rfl, SqL.of (Fb.x.h _ _ ha2 nad), atI_nat (j := 0) rfl, Hb, [dO one, dI n], _, Ex.refl _, .cons (Rp.ord hqk') (.cons (.int _) .nil), ⟨(one, n), rfl, ⟨c3, hc2⟩, rfl⟩, fun vb Gb Hc xc rb => ?_⟩
      obtain rfl := rb.bl_inv
      refine ⟨_, rfl, ?_⟩
      have Fc := Fb.ext (Ext.hs Fb.e xc.h)
      have hqkc := xc.h _ _ hqk'
      cases hf1 : fall one n with
      | false =>
        have eo : outF n st (one, pl) = st := if_neg (by rw [hf1]; exact Bool.false_ne_true)
        exact iteF (iteF ⟨G', kvs', _, _, _, _, rfl, by rw [eo]; exact Fc⟩)
      | true =>
        rw [hf1] at hc3
        have hvc : RpP G' val pl := (hval.lx l5).mono F.x.g
        obtain ⟨r, rfl, hr⟩ := hvc
        have hrc : Rd Hc r (.dK (encP pl)) := Rd.ex Fc.e hr
        have ev : (valV (encP pl) (Sum.inl 1)).getD (V.int 0) = V.int (at1 pl) := by
          rw [val_encP]
          unfold at1
          cases getK pl 1 <;> rfl
        refine iteT ⟨_, rfl, r, rfl, Or.inl ⟨_, hrc⟩, valV (encP pl) (Sum.inl 1), Or.inl ⟨_, Sum.inl 1, hrc, rfl, rfl⟩, by rw [ev]; rfl, _, rfl, ?_⟩
        rw [ev, dec_int]
        by_cases h0 : at1 pl = 0
        · rw [decide_eq_true h0]
          have eo : outF n st (one, pl) = st := if_neg (by rw [hf1, decide_eq_true h0]; exact Bool.false_ne_true)
          exact iteF ⟨G', kvs', _, _, _, _, rfl, by rw [eo]; exact Fc⟩
        · have eo : outF n st (one, pl) = (kept one).foldl (putF (at1 pl)) st := if_pos (by rw [hf1, decide_eq_false h0]; rfl)
          rw [eo]
          rw [decide_eq_false h0] at hc3 ⊢
          have hc3 : (decide (one ∈ dom) && decide (inv one < inv o) && fOk (putF (at1 pl)) putC st (kept one) && decide (-(2 ^ 64) < 0 - at1 pl) && decide (0 - at1 pl < 2 ^ 64)) = true := hc3
          simp only [Bool.and_eq_true, decide_eq_true_eq] at hc3
          obtain ⟨⟨⟨⟨d1, d2⟩, d3⟩, d4⟩, d5⟩ := hc3
          obtain ⟨⟨dxc, hac⟩, ⟨kdc, osc, hdc, knc⟩, gdc⟩ := id Fc.k
          -- for below, lower in self.of(one).items()
          refine iteT ⟨_, rfl, a, dxc, _, rfl, hac, rfl, _, rfl, a, .ref qk, G', d, one, rfl, Fc.k, Fc.e, Rp.ord hqkc, d1, by omega, fun v6 G6 H6 x6 kp6 r6 => ?_⟩
          have F6 := Fc.call x6 kp6
          generalize kept one = bs2 at r6 d3 ⊢
          obtain ⟨q2, bk2, rfl, hq2, hs2⟩ := r6
          refine ⟨q2, bk2, rfl, Rd.ex F6.e hq2, fun od2 hod2 => ?_⟩
          have F7 := F6.lock hq2 hod2
          obtain ⟨e7, l7, n7⟩ := lk_in (u := .dT bk2) True.intro hq2 F6.e hod2
          have hlen2 : bk2.length = bs2.length := Paired.length hs2
          have g7q : upd G6 q2 (.frz od2 (.dT bk2)) q2 = some (.frz od2 (.dT bk2)) := upd_same
          have hvl : Rd (upd G6 q2 (.frz od2 (.dT bk2))) r (.dK (encP pl)) := Rd.lx l7 True.intro (Rd.ex x6.g hr)
          have hpc : valV (encP pl) (Sum.inl 1) = some (V.int (at1 pl)) := by
            rw [val_encP]
            unfold at1 at h0 ⊢
            cases hg : getK pl 1 with
            | none => rw [hg] at h0; exact absurd rfl h0
            | some z => rfl
          refine for_it (walk_itemsT (d := q2) (o := od2) (kvs := bk2)) (fun j σ' Hj => ∃ Gj kvsj s7 s8, σ' = [some (.ref a), some (.ref ao), some (.ref a2), some (.ref q), some (.ref p), some (.ref qk), some (.ref r), s7, s8, none] ∧ Fd T.C a d p (upd G6 q2 (.frz od2 (.dT bk2))) (upd (Wo H6 p kvs') q2 (.frz od2 (.dT bk2))) Gj Hj kvsj ((bs2.take j).foldl (putF (at1 pl)) st))
            ⟨_, kvs', _, _, rfl, F7⟩ (fun j σ' Hj _ ⟨Gj, _, _, _, _, F⟩ => F.e _ _ (F.x.g _ _ g7q)) (fun j x σ' Hj Hj' hj ⟨Gj, kvsj, s7, s8, hσ, Fj⟩ y => ?_) fun σ' Hj ⟨Gj, kvsj, t7, t8, hσ, Fj⟩ => ?_
          · subst hσ
            obtain ⟨Tq, kk2, val2, qk2, hkv2, rfl, hT2, hqk2, rfl⟩ := y
            obtain ⟨⟨below, lower⟩, hop2, hkk2, hval2⟩ := Paired.at2 hs2 hkv2
            obtain rfl : kk2 = ko below := hkk2
            have hval2 : RpP G6 val2 lower := hval2
            have hp2 := fOk_at d3 hop2
            unfold putC at hp2
            simp only [Bool.and_eq_true, decide_eq_true_eq] at hp2
            rw [show (bs2.take (j + 1)).foldl (putF (at1 pl)) st = putF (at1 pl) ((bs2.take j).foldl (putF (at1 pl)) st) (below, lower) from foldl_take (putF (at1 pl)) hop2 st]
            generalize (bs2.take j).foldl (putF (at1 pl)) st = sj at Fj hp2 ⊢
            refine ⟨Tq, _, rfl, SqT.of upd_same, rfl, _, _, rfl, _, _, rfl, rfl, ?_⟩
            have eTq : Ex Hj (upd Hj Tq (.tup [.ref qk2, val2])) := Ex.new hT2
            have hqk2' := eTq _ _ hqk2
            have Fk := Fj.ext (Ext.hs Fj.e eTq)
            generalize upd Hj Tq (.tup [.ref qk2, val2]) = Hk at eTq Fk hqk2'
            have hrk : Rd Hk r (.dK (encP pl)) := Rd.ex Fk.e (Rd.ex Fk.x.g hvl)
            refine ⟨_, rfl, _, rfl, _, rfl, _, rfl, r, V.int (at1 pl), rfl, Or.inl ⟨_, Sum.inl 1, hrk, rfl, hpc.symm⟩, 0, at1 pl, rfl, rfl, ?_⟩
            refine ⟨Wo Hk p kvsj, p, kvsj, sj, .ref qk2, val2, below, lower, 0, 0 - at1 pl, rfl, wo_ex, Fk.o.w, Rp.ord (Fk.o.wk hqk2' fun z => z), ((hval2.lx l7).mono Fk.x.g).mono (Fk.o.gw Fk.e), ⟨d4, d5⟩, hp2.1, hp2.2, fun H8 kvs8 e8 o8 => ?_⟩
            exact ⟨Gj, kvs8, _, _, rfl, Fk.put e8 o8⟩
          · subst hσ
            rw [hlen2, List.take_length] at Fj
            obtain ⟨G9, H9, eG9, eH9, lx9, nn9, ne9, q9, fin9⟩ := lk_out (Hs := Hc) (u := .dT bk2) True.intro hq2 F6.e hod2 (fun z o' u' z2 => by
              by_cases w : q2 = d
              · rw [w, hdc] at z2; cases z2
              · rw [x6.h q2 _ z2 w] at z; cases z) Fj.x.g Fj.e
            refine fin9 (fun Hz => ∃ G' kvs' s5 s6 s7 s8, [some (.ref a), some (.ref ao), some (.ref a2), some (.ref q), some (.ref p), some (.ref qk), some (.ref r), t7, t8, none] = [some (.ref a), some (.ref ao), some (.ref a2), some (.ref q), some (.ref p), s5, s6, s7, s8, none] ∧ Fd T.C a d p G5 Hs5 G' Hz kvs' (bs2.foldl (putF (at1 pl)) st)) ?_
            exact ⟨G9, kvsj, _, _, _, _, rfl, F6.unlock hq2 hod2 Fj eG9 eH9 lx9 nn9 ne9 q9⟩
    · subst hσ
      rw [hlen, List.take_length] at F
      rw [← hG5, ← hS5] at F
      obtain ⟨G9, H9, eG9, eH9, lx9, nn9, ne9, q9, fin9⟩ := lk_out (Hs := H4) (u := .dT bk) True.intro hq F4.e hod (fun z o' u' z2 => by rw [z] at z2; cases z2) F.x.g F.e
      have F9 := F4.unlock hq hod F eG9 eH9 lx9 nn9 ne9 q9
      refine fin9 (fun Hz => (tRet (tCall spWo [] E0 (tCons (tVar 4) tNil))) _ _ Hz) ?_
      refine ⟨_, rfl, .ref p, bs.foldl (outF n) m0, rfl, F9.o.rps, c7, fun v' Gn Hn e1 e2 nn r' => ?_⟩
      rw [c8] at r'
      have gn : ∀ b, G9 b ≠ none → Gn b = none := fun b h => nn b (Ex.ne eH9 h)
      obtain ⟨j1, j2⟩ := join_ex gn
      have X9 : ExtK d G9 H9 (joinG G9 Gn) Hn := ⟨fun b ob h _ => e1 b ob h, fun b h => Ex.ne e1 h, j1, join_in (Ex.trans eH9 e1) e2, fun b h1 h2 => join_none h1 (nn b h2)⟩
      obtain ⟨⟨dx9, h91⟩, ⟨k9, os9, h92, h93⟩, h94⟩ := id F9.k
      exact k v' _ Hn (xa.trans (F9.x.trans X9)) (F9.k.re (by rw [h91, e1 _ _ h91]) (by rw [h92, e1 _ _ h92]) (join_none h94 (nn d (ne_none h92))) fun v s z => z.mono j1) (r'.mono j2)
theorem ok_of_found (T : Txt K mg) (m L : Nat) (ih : FnOk P w K mg base CX0 m T.K_found.f T.K_found.fd ["self", "order"] (spOf T.C L)) :
    FnOk P w K mg base CX0 (m + 1) T.K_of.f T.K_of.fd ["self", "order"] (spOf T.C L) := by
  refine T.K_of.F.ok sc_K_of (fun vs H Q E h => ?_) (fun cdv A outer s H vs Q E hr h => ?_)
  · obtain ⟨a, vo, G, d, o, rfl, _⟩ := h
    rfl
  refine ⟨_, (pss_cons (ps_if (pt_cmp (pc_dnotin (hu_of hr) (pv 1) (pe_fld (pv 0) rfl)))
        (pss_one (ps_dput (hu_of hr) (pe_fld (pv 0) rfl) (pv 1) (pe_mt (pv 0) T.clK T.K_found ih hr (by first | decide | omega) (pa_cons (pv 1) pa_nil)) rfl))
        pss_nil)
      (pss_one (ps_ret (pe_dget (hu_of hr) (pe_fld (pv 0) rfl) (pv 1) (fun _ _ => rfl))))), ?_⟩
  obtain ⟨a, vo, G, d, o, rfl, kp, e, ro, ho, hi, k⟩ := h
  obtain ⟨ao, xs, rfl, hao, rao⟩ := ro.tup_inv
  obtain rfl := rao.ints
  have hko : H ao = some (.tup ((ko o).map kV)) := by rw [ko_kV]; exact hao
  obtain ⟨⟨dx, ha⟩, ⟨kvs, os, hd, kn⟩, gd⟩ := id kp
  refine ⟨_, rfl, _, rfl, a, T.C, dx, _, _, rfl, ha, T.clK, T.nK, rfl, d, valV kvs (ko o), rfl, DGet.t hd hko, _, rfl, ?_⟩
  rcases kn_get kn.ks o with ⟨hn, _⟩ | ⟨v, hv, rv⟩
  · refine iteT' (by rw [hn]; rfl) ⟨_, rfl, a, dx, _, rfl, ha, rfl, _, rfl, a, .ref ao, G, d, o, rfl, kp, e, ro, ho, hi, fun v G' H' x kp' rv => ?_⟩
    obtain ⟨⟨dx', ha'⟩, ⟨kvs', os', hd', kn'⟩, gd'⟩ := id kp'
    have nda : a ≠ d := ne_of ha' hd' fun z => nomatch z
    have ndo : ao ≠ d := ne_of hko hd fun z => nomatch z
    have hko' := x.h ao _ hko ndo
    refine ⟨_, rfl, a, T.C, dx', _, _, rfl, ha', T.clK, T.nK, rfl, _, rfl, d, _, rfl, DPut.t hd' hko' (kn_sz kn'), ?_⟩
    have ha2 : upd H' d (.dT (putK kvs' (ko o) v)) a = some (.ins T.C dx' [("known", .ref d)]) := by rw [upd_ne nda]; exact ha'
    have hko2 : upd H' d (.dT (putK kvs' (ko o) v)) ao = some (.tup ((ko o).map kV)) := by rw [upd_ne ndo]; exact hko'
    refine ⟨_, rfl, a, T.C, dx', _, _, rfl, ha2, T.clK, T.nK, rfl, _, rfl, d, v, rfl, ?_, ?_⟩
    · have q := DGet.t (H := upd H' d (.dT (putK kvs' (ko o) v))) (a := d) upd_same hko2
      rw [valV_put, if_pos rfl] at q
      exact q
    · obtain ⟨os2, kn2⟩ := kn'.put ho rv
      exact k v G' _ ⟨fun b ob h n => by rw [upd_ne n]; exact x.h b ob h n, fun b h => by
        by_cases z : b = d
        · rw [z, upd_same]; exact fun z => nomatch z
        · rw [upd_ne z]; exact x.ne b h, x.g, Ex.mut x.gh gd', x.fr⟩ ⟨⟨dx', ha2⟩, ⟨_, os2, upd_same, kn2⟩, gd'⟩ rv
  · refine iteF' (by rw [hv]; rfl) ⟨_, rfl, a, T.C, dx, _, _, rfl, ha, T.clK, T.nK, rfl, _, rfl, d, v, rfl, ?_, k v G H ((Ext.refl e).k d) kp rv⟩
    have q := DGet.t (H := H) (a := d) hd hko
    rw [hv] at q
    exact q
end
end U
namespace U
open PySem L2 Evl
section
variable {P : Program} {w : World} {K : PySem.W.Frag} {mg : Str → Option Value} {base : Heap}
theorem ok_of_lt (T : Txt K mg) : ∀ L : Nat, FnOk P w K mg base CX0 (4 + 2 * L) T.K_of.f T.K_of.fd ["self", "order"] (spOf T.C L)
  | 0 => ⟨fun vs H Q E h => by
      obtain ⟨a, vo, G, d, o, rfl, _⟩ := h
      rfl, fun A outer s H args us vs Q E hr he hb hv h => by
      obtain ⟨a, vo, G, d, o, _, _, _, _, _, hi, _⟩ := h
      exact absurd hi (Nat.not_lt_zero _)⟩
  | L + 1 => by
    have h1 := ok_found_of (P := P) (w := w) (base := base) T L (ok_of_lt T L)
    rw [show 4 + 2 * (L + 1) = 5 + 2 * L + 1 by omega]
    exact ok_of_found T (5 + 2 * L) (L + 1) h1
theorem ok_K_of (T : Txt K mg) : FnOk P w K mg base CX0 18 T.K_of.f T.K_of.fd ["self", "order"] (spOf T.C 7) := ok_of_lt T 7
theorem dom_inv {o : Od} (h : o ∈ dom) : inv o < 7 ∧ o.length ≤ 4 ∧ 1 ≤ o.length := by
  have st := dom_ok o h
  unfold stepOk at st
  simp only [Bool.and_eq_true, decide_eq_true_eq] at st
  exact ⟨st.1.1.1, st.1.1.2, st.1.2⟩
/-! ### one polynomial, its number at one -/
def polyM (one other : Od) : Poly := (getK (kept other) one).getD []
def spPoly (C : Addr) : Sp := fun vs H Q _ => ∃ a v1 v2 G d one other, vs = [.ref a, v1, v2] ∧ KeepAt C G H a d ∧ Ex G H ∧ Rp H v1 (dO one) ∧ Rp H v2 (dO other) ∧ other ∈ dom ∧ ∀ v G' H', ExtK d G H G' H' → KeepAt C G' H' a d → RpP G' v (polyM one other) → Q v H'
def spNum (C : Addr) (f : Od → Od → Int) (c : Od → Od → Prop) : Sp := fun vs H Q _ => ∃ a v1 v2 G d one other, vs = [.ref a, v1, v2] ∧ KeepAt C G H a d ∧ Ex G H ∧ Rp H v1 (dO one) ∧ Rp H v2 (dO other) ∧ c one other ∧ ∀ G' H', ExtK d G H G' H' → KeepAt C G' H' a d → Q (.int (f one other)) H'
theorem KeepAt.nref {C G H : _} {a d : Addr} (k : KeepAt C G H a d) {b : Addr} {xs : List V} (h : H b = some (.tup xs)) : b ≠ d := by
  obtain ⟨_, ⟨kvs, os, h2, _⟩, _⟩ := k
  exact ne_of h h2 fun z => nomatch z
theorem RpO.k {C G H G' H' : _} {a d : Addr} {v : V} {o : Od} (k : KeepAt C G H a d) (x : ExtK d G H G' H') (h : Rp H v (dO o)) : Rp H' v (dO o) := by
  obtain ⟨b, xs, rfl, hb, r⟩ := h.tup_inv
  obtain rfl := r.ints
  exact .tup (x.h b _ hb (k.nref hb)) (RpAll.ofInts o)
theorem ok_K_polynomial (T : Txt K mg) : FnOk P w K mg base CX0 19 T.K_polynomial.f T.K_polynomial.fd ["self", "one", "other"] (spPoly T.C) := by
  refine T.K_polynomial.F.ok sc_K_polynomial (fun vs H Q E h => ?_) (fun cdv A outer s H vs Q E hr h => ?_)
  · obtain ⟨_, _, _, _, _, _, _, rfl, _⟩ := h
    rfl
  refine ⟨_, (pss_one (ps_ret (pe_dget2 (hu_of hr) (pe_mt (pv 0) T.clK T.K_of (ok_K_of T) hr (by first | decide | omega) (pa_cons (pv 2) pa_nil)) (pv 1) pe_dnewK ⟨rfl, rfl, rfl, rfl⟩))), ?_⟩
  obtain ⟨a, v1, v2, G, d, one, other, rfl, kp, e, r1, r2, hd, k⟩ := h
  obtain ⟨⟨dx, ha⟩, _, _⟩ := id kp
  refine ⟨_, rfl, a, dx, _, rfl, ha, rfl, _, rfl, a, v2, G, d, other, rfl, kp, e, r2, hd, (dom_inv hd).1, fun v G' H' x kp' rv => ?_⟩
  obtain ⟨q, kvs, rfl, hq, hs⟩ := rv
  have hq' := Rd.ex x.gh hq
  obtain ⟨b1, xs, rfl, hb1, rb1⟩ := (RpO.k kp x r1).tup_inv
  obtain rfl := rb1.ints
  refine ⟨q, rfl, Or.inr ⟨_, hq'⟩, _, rfl, fun p hp => ?_⟩
  have xp := Ext.new (o := .dK []) x.gh hp
  refine ⟨valV kvs (ko one), Or.inr ⟨kvs, ko one, b1, Rd.ex xp.h hq', rfl, by rw [upd_ne (ne_of_none hb1 hp), ko_kV]; exact hb1, rfl⟩, ?_⟩
  refine k _ _ _ (x.trans (xp.k d)) (kp'.ext xp) ?_
  unfold polyM
  rcases paired_val hs one with ⟨hg, hv⟩ | ⟨pl, v, hg, hv, rp⟩
  · rw [hg, hv]
    exact ⟨p, rfl, Or.inl upd_same⟩
  · rw [hg, hv]
    exact rp.mono xp.g
theorem ok_K_lead (T : Txt K mg) : FnOk P w K mg base CX0 20 T.K_lead.f T.K_lead.fd ["self", "one", "other"] (spNum T.C leadM fun _ other => other ∈ dom) := by
  refine T.K_lead.F.ok sc_K_lead (fun vs H Q E h => ?_) (fun cdv A outer s H vs Q E hr h => ?_)
  · obtain ⟨_, _, _, _, _, _, _, rfl, _⟩ := h
    rfl
  refine ⟨_, (pss_one (ps_ret (pe_dget2 (hu_of hr) (pe_mt (pv 0) T.clK T.K_polynomial (ok_K_polynomial T) hr (by first | decide | omega) (pa_cons (pv 1) (pa_cons (pv 2) pa_nil))) pe_int pe_int ⟨rfl, rfl, rfl, rfl⟩))), ?_⟩
  obtain ⟨a, v1, v2, G, d, one, other, rfl, kp, e, r1, r2, hd, k⟩ := h
  obtain ⟨⟨dx, ha⟩, _, _⟩ := id kp
  refine ⟨_, rfl, a, dx, _, rfl, ha, rfl, _, rfl, _, rfl, a, v1, v2, G, d, one, other, rfl, kp, e, r1, r2, hd, fun v G' H' x kp' rv => ?_⟩
  obtain ⟨r, rfl, hr⟩ := rv
  have hrh := Rd.ex x.gh hr
  refine ⟨r, rfl, Or.inl ⟨_, hrh⟩, valV (encP (polyM one other)) (Sum.inl 1), Or.inl ⟨_, Sum.inl 1, hrh, rfl, rfl⟩, ?_⟩
  have ev : (valV (encP (polyM one other)) (Sum.inl 1)).getD (V.int 0) = V.int (leadM one other) := by
    rw [val_encP]
    unfold leadM polyM
    cases getK ((getK (kept other) one).getD []) 1 <;> rfl
  rw [ev]
  exact k G' H' x kp'
theorem ok_K_tie (T : Txt K mg) : FnOk P w K mg base CX0 21 T.K_tie.f T.K_tie.fd ["self", "one", "other"] (spNum T.C tieM fun one other => one ∈ dom ∧ other ∈ dom) := by
  refine T.K_tie.F.ok sc_K_tie (fun vs H Q E h => ?_) (fun cdv A outer s H vs Q E hr h => ?_)
  · obtain ⟨_, _, _, _, _, _, _, rfl, _⟩ := h
    rfl
  refine ⟨_, (pss_cons (ps_set (i := 3) sc_K_tie.nd rfl (Or.inl rfl) (pe_mt (pv 0) T.clK T.K_lead (ok_K_lead T) hr (by first | decide | omega) (pa_cons (pv 1) (pa_cons (pv 2) pa_nil))))
      (pss_cons (ps_if (pt_cmpR op_eq (pv 3) pe_int (nomark _))
        (pss_one (ps_ret (pe_mt (pv 0) T.clK T.K_lead (ok_K_lead T) hr (by first | decide | omega) (pa_cons (pv 2) (pa_cons (pv 1) pa_nil)))))
        pss_nil)
      (pss_one (ps_ret (pv 3))))), ?_⟩
  obtain ⟨a, v1, v2, G, d, one, other, rfl, kp, e, r1, r2, ⟨hd1, hd2⟩, k⟩ := h
  obtain ⟨⟨dx, ha⟩, _, _⟩ := id kp
  refine ⟨_, rfl, a, dx, _, rfl, ha, rfl, _, rfl, _, rfl, a, v1, v2, G, d, one, other, rfl, kp, e, r1, r2, hd2, fun G' H' x kp' => ?_⟩
  refine ⟨_, rfl, rfl, _, rfl, ?_⟩
  rw [dec_int]
  unfold tieM at k
  by_cases h0 : leadM one other = 0
  · rw [if_pos h0] at k
    refine iteT' (decide_eq_true h0) ?_
    obtain ⟨⟨dx', ha'⟩, _, _⟩ := id kp'
    refine ⟨_, rfl, a, dx', _, rfl, ha', rfl, _, rfl, _, rfl, a, v2, v1, G', d, other, one, rfl, kp', x.gh, RpO.k kp x r2, RpO.k kp x r1, hd1, fun G2 H2 x2 kp2 => k G2 H2 (x.trans x2) kp2⟩
  · rw [if_neg h0] at k
    exact iteF' (decide_eq_false h0) ⟨_, rfl, k G' H' x kp'⟩
/-! ### a new Keeping -/
def spInit (C : Addr) : Sp := fun vs H Q _ => ∃ a dx, vs = [.ref a] ∧ H a = some (.ins C dx []) ∧ ∀ d, H d = none → Q .non (upd (upd H d (.dT [])) a (.ins C dx [("known", .ref d)]))
theorem ok_K_init (T : Txt K mg) : FnOk P w K mg base CX0 1 T.K_init.f T.K_init.fd ["self"] (spInit T.C) := by
  refine T.K_init.F.ok sc_K_init (fun vs H Q E h => ?_) (fun cdv A outer s H vs Q E hr h => ?_)
  · obtain ⟨_, _, rfl, _⟩ := h
    rfl
  refine ⟨_, (pss_one (ps_fld (pv 0) pe_dnewT rfl)), ?_⟩
  obtain ⟨a, dx, rfl, ha, k⟩ := h
  intro d hd
  have nad : a ≠ d := ne_of_none ha hd
  exact ⟨_, rfl, a, T.C, dx, [], rfl, by rw [upd_ne nad]; exact ha, T.clK, T.nK, by decide, k d hd⟩
theorem mk_keep {C : Addr} {σ : L2.St} {G H : Hp} {E : XK} {Q : VK} (e : Ex G H) (k : ∀ a d H', Ext G H G H' → KeepAt C G H' a d → H a = none → H d = none → Q (.ref a) H') : tMake C (spInit C) [] E tNil σ H Q := by
  intro a dx ha hdx ne
  refine ⟨a, dx, rfl, upd_same, fun d hd => ⟨rfl, ?_⟩⟩
  have nda : d ≠ a := fun z => by rw [z, upd_same] at hd; cases hd
  have ndx : d ≠ dx := fun z => by rw [upd_ne nda, z, upd_same] at hd; cases hd
  have hdH : H d = none := by rw [upd_ne nda, upd_ne ndx] at hd; exact hd
  have e2 : Ex H (upd (upd (upd (upd H dx (.own a)) a (.ins C dx [])) d (.dT [])) a (.ins C dx [("known", .ref d)])) := fun b ob h => by
    rw [upd_ne (ne_of_none h ha), upd_ne (ne_of_none h hdH), upd_ne (ne_of_none h ha), upd_ne (ne_of_none h hdx)]
    exact h
  exact k a d _ (Ext.hs e e2) ⟨⟨dx, upd_same⟩, ⟨[], [], by rw [upd_ne nda, upd_same], .nil, List.nodup_nil, fun o h => by simp at h⟩, fresh_back e hdH⟩ ha hdH
theorem mk_call {C : Addr} {m : Str} {sp : Sp} {E : XK} {t : TA} {σ : L2.St} {G H : Hp} {Q : VK} (e : Ex G H) (hm : ∀ d : Addr, List.lookup m [(("known" : Str), V.ref d)] = none)
    (k : ∀ a d H', Ext G H G H' → KeepAt C G H' a d → H a = none → H d = none → t σ H' fun vs H2 => sp (.ref a :: (vs ++ [])) H2 Q E) : tMeth C m sp [] E (tMake C (spInit C) [] E0 tNil) t σ H Q :=
  mk_keep e fun a d H' x kp ha hd => by
    obtain ⟨⟨dx, h⟩, _, _⟩ := id kp
    exact ⟨a, dx, _, rfl, h, hm d, k a d H' x kp ha hd⟩
/-! ### the number of a pair, by a Keeping of its own -/
abbrev RLead := RF (fun x : Od × Od => [dO x.1, dO x.2]) (fun x => x.1.length = x.2.length ∧ x.1 ∈ dom ∧ x.2 ∈ dom) fun x => dI (leadM x.1 x.2)
theorem ok_lead (T : Txt K mg) : FnOk P w K mg base CX0 21 T.lead.f T.lead.fd ["one", "other"] (PSp RLead) := by
  refine T.lead.F.ok sc_lead (fun vs H Q E h => psp_len (rf_len fun _ => rfl) h) (fun cdv A outer s H vs Q E hr h => ?_)
  refine ⟨_, (pss_cons (ps_if (pt_cmpR op_ne (pe_callB (k_len (K := K) rfl) (by rfl) T.len (by decide +kernel) (pa_cons (pv 0) pa_nil)) (pe_callB (k_len (K := K) rfl) (by rfl) T.len (by decide +kernel) (pa_cons (pv 1) pa_nil)) (nomark _))
        (pss_one ps_never)
        pss_nil)
      (pss_cons (ps_expr (pe_dn T.look_few (ok_look_few T) hr (by decide) (pa_cons (pv 0) pa_nil)))
      (pss_one (ps_ret (pe_mt (pe_make0 T.mkK (ok_K_init T) (hr.mono (by decide)) rfl T.gC T.K_init.b .nil pass0) T.clK T.K_lead (ok_K_lead T) hr (by first | decide | omega) (pa_cons (pv 0) (pa_cons (pv 1) pa_nil))))))), ?_⟩
  obtain ⟨G, ds, d, e, r, ⟨⟨one, other⟩, rfl, ⟨hl, h1, h2⟩, rfl⟩, q⟩ := h
  have hl : one.length = other.length := hl
  have h1 : one ∈ dom := h1
  have h2 : other ∈ dom := h2
  cases r with
  | @cons v1 _ _ _ r1 r =>
  cases r with
  | @cons v2 _ _ _ r2 r =>
  cases r
  have S0 : Slots H [.imm (dO one), .imm (dO other)] [some v1, some v2] G H := ((anyS [some v1, some v2]).setImm (i := 0) r1).setImm (i := 1) r2
  refine (tv_cmp (b := false) ((dv_neI (dv_lenT (dv_var rfl).r).r (dv_lenT (dv_var rfl).r).r).r.is ?_)) _ G H e S0 _ fun H1 e1 => iteF ?_
  · rw [List.length_map, List.length_map, hl, decide_eq_true rfl]
    rfl
  have x1 := Ext.hs e e1
  refine (dv_call (av_cons (dv_var rfl) av_nil) ⟨one, rfl, by have q := (dom_inv h1).2.1; omega, rfl⟩) _ G H1 x1.gh (S0.ext x1) _ fun _ G2 H2 x2 _ => ?_
  have x12 := x1.trans x2
  refine mk_call (m := "lead") x2.gh (fun _ => rfl) fun a dd H3 x3 kp ha hdd => ⟨_, rfl, _, rfl, ?_⟩
  have x123 := x12.trans x3
  refine ⟨a, v1, v2, G2, dd, one, other, rfl, kp, x3.gh, r1.mono (Ex.trans x12.g x3.gh), r2.mono (Ex.trans x12.g x3.gh), h2, fun G4 H4 x4 kp4 => ?_⟩
  refine q _ G4 H4 ⟨fun b ob h => ?_, Ex.trans x12.g x4.g, x4.gh, fun b g h => x4.fr b (x12.fr b g h) (Ex.ne x123.h h)⟩ (.int _)
  exact x4.h b ob (x123.h b ob h) fun z => ne_none (x12.h b ob h) (by rw [z]; exact hdd)
end
end U
namespace U
open PySem L2 Evl
theorem s_if {tt : TT} {t u : TS} {D : Ends} {σ : L2.St} {H : Hp} (h : tt σ H fun b H1 => if b = true then t D σ H1 else u D σ H1) : tIfS tt t u D σ H := h
theorem s_seq {t u : TS} {D : Ends} {σ : L2.St} {H : Hp} (h : t { D with nx := u D } σ H) : tSeq t u D σ H := h
theorem s_next {D : Ends} {σ : L2.St} {H : Hp} (h : D.nx σ H) : tNext D σ H := h
theorem run_tv {H0 G H : Hp} {ρ : Rho} {σ : L2.St} {tt : TT} {b : Bool} {Q : Bool → Hp → Prop} (h : TV H0 tt ρ b) (e : Ex G H) (S : Slots H0 ρ σ G H) (k : ∀ H', Ex H H' → Q b H') : tt σ H Q := h σ G H e S Q k
theorem run_dv {H0 G H : Hp} {ρ : Rho} {σ : L2.St} {te : TE} {d : PyData} {Q : VK} (h : DV H0 te ρ d) (e : Ex G H) (S : Slots H0 ρ σ G H) (k : ∀ v G' H', Ext G H G' H' → Rp G' v d → Q v H') : te σ H Q := h σ G H e S Q k
/-! ### a list that is built while a Keeping learns -/
structure LK (C a d pf : Addr) (Gs Hs G H : Hp) (ds : List PyData) : Prop where
  x : ExtK d Gs Hs G H
  k : KeepAt C G H a d
  l : ∃ vs, H pf = some (.lst vs) ∧ RpAll G vs ds
  gp : G pf = none
  hp : Hs pf = none
section
variable {C a d pf : Addr} {Gs Hs G H G' H' : Hp} {ds : List PyData}
theorem LK.e (L : LK C a d pf Gs Hs G H ds) : Ex G H := L.x.gh
theorem LK.npd (L : LK C a d pf Gs Hs G H ds) : pf ≠ d := by
  obtain ⟨vs, h, _⟩ := L.l
  obtain ⟨_, ⟨kvs, os, h2, _⟩, _⟩ := L.k
  exact ne_of h h2 fun z => nomatch z
theorem LK.ext (L : LK C a d pf Gs Hs G H ds) (x : Ext G H G' H') : LK C a d pf Gs Hs G' H' ds := by
  obtain ⟨vs, h, r⟩ := L.l
  exact ⟨L.x.trans (x.k d), L.k.ext x, ⟨vs, x.h _ _ h, r.mono x.g⟩, x.fr pf L.gp (ne_none h), L.hp⟩
theorem LK.call (L : LK C a d pf Gs Hs G H ds) (x : ExtK d G H G' H') (k : KeepAt C G' H' a d) : LK C a d pf Gs Hs G' H' ds := by
  obtain ⟨vs, h, r⟩ := L.l
  exact ⟨L.x.trans x, k, ⟨vs, x.h _ _ h L.npd, r.mono x.g⟩, x.fr pf L.gp (ne_none h), L.hp⟩
theorem LK.app {v : V} {e : PyData} (L : LK C a d pf Gs Hs G H ds) (hl : ds.length < 100000) (r : Rp G v e) : ∃ vs, H pf = some (.lst vs) ∧ vs.length < sizeLine ∧ LK C a d pf Gs Hs G (upd H pf (.lst (vs ++ [v]))) (ds ++ [e]) := by
  obtain ⟨vs, h, rv⟩ := L.l
  obtain ⟨⟨dx, h1⟩, ⟨kvs, os, h2, _⟩, h4⟩ := id L.k
  refine ⟨vs, h, by rw [rv.len]; exact sz_lt hl, ⟨fun b ob hb n => ?_, fun b hb => ?_, L.x.g, Ex.mut L.x.gh L.gp, L.x.fr⟩, L.k.re (upd_ne (ne_of h1 h fun z => nomatch z)) (upd_ne (Ne.symm L.npd)) h4 (fun v s r => r), ⟨_, upd_same, rv.append (.one r)⟩, L.gp, L.hp⟩
  · rw [upd_ne fun z => by rw [z, L.hp] at hb; cases hb]
    exact L.x.h b ob hb n
  · by_cases z : b = pf
    · rw [z, upd_same]
      exact fun z => nomatch z
    · rw [upd_ne z]
      exact L.x.ne b hb
theorem LK.start (e : Ex G H) (k : KeepAt C G H a d) (hp : H pf = none) : LK C a d pf G H G (upd H pf (.lst [])) [] := by
  have x := Ext.hs e (Ex.new (o := .lst []) hp)
  exact ⟨x.k d, k.ext x, ⟨[], upd_same, .nil⟩, fresh_back e hp, hp⟩
/-- it stands still from now on -/
theorem LK.fin (L : LK C a d pf Gs Hs G H ds) : ∃ G', Ex G G' ∧ ExtK d Gs Hs G' H ∧ KeepAt C G' H a d ∧ Rp G' (.ref pf) (.list ds) := by
  obtain ⟨vs, h, rv⟩ := L.l
  have eG := Ex.new (o := .lst vs) L.gp
  refine ⟨upd G pf (.lst vs), eG, ⟨L.x.h, L.x.ne, Ex.trans L.x.g eG, fun b ob hb => ?_, fun b h1 h2 => ?_⟩, L.k.re rfl rfl (by rw [upd_ne (Ne.symm L.npd)]; exact L.k.nd) (fun v s r => r.mono eG), .lst upd_same (rv.mono eG)⟩
  · by_cases z : b = pf
    · rw [z, upd_same] at hb
      rw [z, h, ← hb]
    · rw [upd_ne z] at hb
      exact L.e b ob hb
  · rw [upd_ne fun z => h2 (by rw [z]; exact L.hp)]
    exact L.x.fr b h1 h2
end
/-- an expression during which the Keeping learns -/
def EV (C a d : Addr) (i0 : Nat) (te : TE) (ρ : Rho) (e : PyData) : Prop := ∀ (H0 : Hp) (σ : L2.St) (G H : Hp), Ex G H → Slots H0 ρ σ G H → σ[i0]? = some (some (.ref a)) → KeepAt C G H a d → ∀ Q : VK, (∀ v G' H', ExtK d G H G' H' → KeepAt C G' H' a d → Rp G' v e → Q v H') → te σ H Q
theorem ev_lc {K : PySem.W.Frag} {C a dd : Addr} {i0 j : Nat} {te tl : TE} {ρ : Rho} {α : Type} {fe g : α → PyData} {xs : List α} (hl : ∀ H0, DV H0 tl ρ (.list (xs.map fe))) (hn : noOwn ρ = true) (hij : i0 ≠ j) (hz : xs.length ≤ 40000)
    (he : ∀ x, x ∈ xs → EV C a dd i0 te (cR ρ j (fe x)) (g x)) : EV C a dd i0 (tLc (iList K tl) (gName j) tYes te [j]) ρ (.list (xs.map g)) := fun H0 σ G H e S h0 kp Q q => hl H0 σ G H e S _ fun v G1 H1 x1 r1 => by
  obtain ⟨al, vs, rfl, h, ra⟩ := r1.lst_inv
  have hlen : vs.length = xs.length := by rw [ra.len, List.length_map]
  refine ⟨al, rfl, ⟨vs, SqL.of (x1.gh _ _ h)⟩, fun D hD => ?_⟩
  have L0 := LK.start x1.gh (kp.ext x1) hD
  refine lc_it (walk_list (K := K) (a := al) (xs := vs)) (fun i H' => ∃ G', LK C a dd D G1 H1 G' H' ((xs.take i).map g)) ⟨G1, L0⟩ (fun i H' _ ⟨G', L⟩ => SqL.of (L.e _ _ (L.x.g _ _ h))) (fun i x H' H2 hi ⟨G', L⟩ y => ?_) fun H' ⟨G', L⟩ => ?_
  · obtain ⟨rfl, hx⟩ := y
    obtain ⟨x0, hx0, rx⟩ := ra.ofVX hx
    have hm := List.mem_of_getElem? hx0
    refine ⟨wipe1, ?_⟩
    have S' : Slots H0 (cR ρ j (fe x0)) ((wipe σ [j]).set j (some x)) G' H2 := (((S.ext x1).up hn L.x.g).setAny (i := j) (s := none)).setImm (rx.mono L.x.g)
    show te _ H2 _
    refine he x0 hm H0 _ G' H2 L.e S' ?_ L.k _ fun y G4 H4 x4 k4 r4 => ?_
    · rw [List.getElem?_set_ne (Ne.symm hij), wipe_out (by simpa using hij)]
      exact h0
    · have hl2 : ((xs.take i).map g).length < 100000 := by rw [List.length_map, List.length_take]; omega
      obtain ⟨ws, w1, w2, w3⟩ := (L.call x4 k4).app hl2 r4
      refine ⟨ws, w1, w2, G4, ?_⟩
      rw [List.take_add_one, hx0, List.map_append]
      exact w3
  · rw [hlen, List.take_length] at L
    obtain ⟨G', e1, x2, k2, r2⟩ := L.fin
    exact q _ G' H' ((x1.k dd).trans x2) k2 r2
section
variable {P : Program} {w : World} {K : PySem.W.Frag} {mg : Str → Option Value} {base : Heap}
/-! ### the number at a pair of a hearth -/
def numM (k : Nat) (one other : Od) : Int := if fall one k then (if one = other then 1 else 0) else if one = other then -1 else if fall other k then tieM one other else 0
def spNA (C : Addr) : Sp := fun vs H Q _ => ∃ (a : Addr) (k : Nat) (v1 v2 : V) (G : Hp) (d : Addr) (one other : Od), vs = [.ref a, .int (k : Nat), v1, v2] ∧ KeepAt C G H a d ∧ Ex G H ∧ Rp G v1 (dO one) ∧ Rp G v2 (dO other) ∧ (1 ≤ k ∧ k < one.length ∧ k < other.length ∧ one ∈ dom ∧ other ∈ dom) ∧
  ∀ G' H', ExtK d G H G' H' → KeepAt C G' H' a d → Q (.int (numM k one other)) H'
theorem ok_number_at (T : Txt K mg) : FnOk P w K mg base CX0 22 T.number_at.f T.number_at.fd ["keeping", "k", "one", "other"] (spNA T.C) := by
  refine T.number_at.F.ok sc_number_at (fun vs H Q E h => ?_) (fun cdv A outer s H vs Q E hr h => ?_)
  · obtain ⟨_, _, _, _, _, _, _, _, rfl, _⟩ := h
    rfl
  refine ⟨_, (pss_cons (ps_if (pt_val (pe_dn T.is_fall (ok_is_fall T) hr (by decide) (pa_cons (pv 2) (pa_cons (pv 1) pa_nil))))
        (pss_one (ps_ret (pe_callTy call_int1 (by rfl) T.int (by decide +kernel) (pa_cons (pe_cmpR (k_eqD (K := K) rfl (hu64 hr)) (pv 2) (pv 3) (nomark _)) pa_nil))))
        pss_nil)
      (pss_cons (ps_if (pt_cmpR (k_eqD (K := K) rfl (hu64 hr)) (pv 2) (pv 3) (nomark _))
        (pss_one (ps_ret (pe_un un_neg pe_int)))
        pss_nil)
      (pss_cons (ps_if (pt_not (pt_val (pe_dn T.is_fall (ok_is_fall T) hr (by decide) (pa_cons (pv 3) (pa_cons (pv 1) pa_nil)))))
        (pss_one (ps_ret pe_int))
        pss_nil)
      (pss_one (ps_ret (pe_mt (pv 0) T.clK T.K_tie (ok_K_tie T) hr (by first | decide | omega) (pa_cons (pv 2) (pa_cons (pv 3) pa_nil)))))))), ?_⟩
  obtain ⟨a, n, v1, v2, G, d, one, other, rfl, kp, e, r1, r2, ⟨h1, h2, h3, h4, h5⟩, k⟩ := h
  have S0 : Slots H [.any, .imm (dI n), .imm (dO one), .imm (dO other)] [some (.ref a), some (.int n), some v1, some v2] G H := (((anyS [some (.ref a), some (.int n), some v1, some v2]).setImm (i := 1) (.int _)).setImm (i := 2) r1).setImm (i := 3) r2
  unfold numM at k
  refine (tv_val (b := fall one n) (dv_call (av_cons (dv_var rfl) (av_cons (dv_var rfl) av_nil)) ⟨(one, n), rfl, ⟨h1, h2⟩, rfl⟩).r) _ G H e S0 _ fun H1 e1 => ?_
  have x1 := Ext.hs e e1
  have S1 := S0.ext x1
  cases hf1 : fall one n with
  | true =>
    rw [hf1, if_pos rfl] at k
    refine iteT ((dv_intB (dv_eqD (dv_var rfl).r (dv_var rfl).r (encO.shaped (by decide) one) (encO.shaped (by decide) other)).r) _ G H1 x1.gh S1 _ fun v G2 H2 x2 r2 => ?_)
    rw [encO.eqv] at r2
    obtain rfl := r2.int_inv
    have q := k G2 H2 ((x1.trans x2).k d) (kp.ext (x1.trans x2))
    by_cases z : one = other
    · rw [if_pos z] at q
      rw [decide_eq_true z]
      exact q
    · rw [if_neg z] at q
      rw [decide_eq_false z]
      exact q
  | false =>
    rw [hf1, if_neg Bool.false_ne_true] at k
    refine iteF ?_
    refine (tv_cmp (b := decide (one = other)) ((dv_eqD (dv_var rfl).r (dv_var rfl).r (encO.shaped (by decide) one) (encO.shaped (by decide) other)).r.is (by rw [encO.eqv]))) _ G H1 x1.gh S1 _ fun H2 e2 => ?_
    have x2 := x1.trans (Ext.hs x1.gh e2)
    have S2 := S0.ext x2
    by_cases z : one = other
    · rw [if_pos z] at k
      exact iteT' (decide_eq_true z) ⟨1, rfl, k G H2 (x2.k d) (kp.ext x2)⟩
    · rw [if_neg z] at k
      refine iteF' (decide_eq_false z) ?_
      have t1 : TV H (tNot (tB (tCall (PSp RFall) [] E0 (tCons (tVar 3) (tCons (tVar 1) tNil))))) [.any, .imm (dI n), .imm (dO one), .imm (dO other)] (!fall other n) := tv_not (tv_val (dv_call (av_cons (dv_var rfl) (av_cons (dv_var rfl) av_nil)) ⟨(other, n), rfl, ⟨h1, h3⟩, rfl⟩).r)
      refine s_next (s_seq (s_if (t1 _ G H2 x2.gh S2 _ fun H3 e3 => ?_)))
      have x3 := x2.trans (Ext.hs x2.gh e3)
      cases hf2 : fall other n with
      | false =>
        rw [hf2, if_neg Bool.false_ne_true] at k
        exact iteT (k G H3 (x3.k d) (kp.ext x3))
      | true =>
        rw [hf2, if_pos rfl] at k
        refine iteF ?_
        have kp3 := kp.ext x3
        obtain ⟨⟨dx, ha⟩, _, _⟩ := id kp3
        exact ⟨_, rfl, a, dx, _, rfl, ha, rfl, _, rfl, _, rfl, a, v1, v2, G, d, one, other, rfl, kp3, x3.gh, r1.mono x3.gh, r2.mono x3.gh, ⟨h4, h5⟩, fun G4 H4 x4 k4 => k G4 H4 ((x3.k d).trans x4) k4⟩
/-! ### what is led at once -/
def spLed (C : Addr) : Sp := fun vs H Q _ => ∃ (a : Addr) (v1 v2 : V) (G : Hp) (d : Addr) (one : Od) (orders : List Od), vs = [.ref a, v1, v2] ∧ KeepAt C G H a d ∧ Ex G H ∧ Rp G v1 (dO one) ∧ Rp G v2 (dOs orders) ∧ (one ∈ dom ∧ orders.length ≤ 100 ∧ ∀ o, o ∈ orders → o ∈ dom ∧ o.length = one.length) ∧
  ∀ v G' H', ExtK d G H G' H' → KeepAt C G' H' a d → Rp G' v (dOs (ledAt one orders)) → Q v H'
theorem ok_led_at_once (T : Txt K mg) : FnOk P w K mg base CX0 22 T.led_at_once.f T.led_at_once.fd ["keeping", "one", "orders"] (spLed T.C) := by
  refine T.led_at_once.F.ok sc_led_at_once (fun vs H Q E h => ?_) (fun cdv A outer s H vs Q E hr h => ?_)
  · obtain ⟨_, _, _, _, _, _, _, rfl, _⟩ := h
    rfl
  refine ⟨_, (pss_cons (ps_set (i := 3) sc_led_at_once.nd rfl (Or.inl rfl) (pe_lst pa_nil))
      (pss_cons (ps_for PassesOwn.never rfl (kpi_list (K := K) rfl (pv 2)) (pg_name (i := 4) sc_led_at_once.nd rfl (Or.inl rfl))
        (pss_one (ps_if (PW.pt (pw_or (pt_cmpR (k_eqD (K := K) rfl (hu64 hr)) (pv 4) (pv 1) (nomark _)) (pw_or1 (PW.pt (pw_and (pt_val (pe_dn T.has_other_fall (ok_has_other_fall T) hr (by decide) (pa_cons (pv 4) (pa_cons (pv 1) pa_nil)))) (pw_and1 (pt_cmpR op_ne (pe_mt (pv 0) T.clK T.K_tie (ok_K_tie T) hr (by first | decide | omega) (pa_cons (pv 1) (pa_cons (pv 4) pa_nil))) pe_int (nomark _))))))))
          (pss_one (ps_expr (pe_bm PySem.F.plainAttrs_list PySem.F.slot_list_append PySem.F.type_list_append mt_append (pv 3) (pa_cons (pv 4) pa_nil))))
          pss_nil)))
      (pss_one (ps_ret (pv 3))))), ?_⟩
  obtain ⟨a, v1, v2, G, d, one, orders, rfl, kp, e, r1, r2, ⟨hd1, hol, hod⟩, k⟩ := h
  refine ⟨by show 0 ≤ sizeLine; decide, fun pf hpf => ?_⟩
  have L0 := LK.start e kp hpf
  obtain ⟨b2, xs, rfl, hb2, ra⟩ := r2.lst_inv
  have hlen : xs.length = orders.length := by rw [ra.len, List.length_map]
  have hne := (dom_inv hd1).2
  refine ⟨_, rfl, b2, rfl, ⟨xs, SqL.of (L0.e _ _ hb2)⟩, ?_⟩
  refine for_it (walk_list (K := K) (a := b2) (xs := xs)) (fun i σ' H' => ∃ G' s4, σ' = [some (.ref a), some v1, some (.ref b2), some (.ref pf), s4] ∧ LK T.C a d pf G H G' H' ((ledAt one (orders.take i)).map dO)) ⟨G, none, rfl, L0⟩
    (fun i σ' H' _ ⟨G', s4, hσ, L⟩ => SqL.of (L.e _ _ (L.x.g _ _ hb2))) (fun i x σ' H' H2 hi ⟨G', s4, hσ, L⟩ y => ?_) fun σ' H' ⟨G', s4, hσ, L⟩ => ?_
  · subst hσ
    obtain ⟨rfl, hx⟩ := y
    obtain ⟨other, hx0, rx⟩ := ra.ofVX hx
    obtain ⟨hd2, hl2⟩ := hod other (List.mem_of_getElem? hx0)
    have S0 : Slots H [.any, .imm (dO one), .any, .any, .imm (dO other)] [some (.ref a), some v1, some (.ref b2), some (.ref pf), some x] G' H2 := ((anyS [some (.ref a), some v1, some (.ref b2), some (.ref pf), some x]).setImm (i := 1) (r1.mono L.x.g)).setImm (i := 4) (rx.mono L.x.g)
    have rxG := rx.mono L.x.g
    have hll : ∀ l : List Od, (ledAt one l).length ≤ l.length := fun l => List.length_filter_le _ _
    have hlt : ((ledAt one (orders.take i)).map dO).length < 100000 := by
      have := hll (orders.take i)
      rw [List.length_take] at this
      rw [List.length_map]
      omega
    have tk : ledAt one (orders.take (i + 1)) = ledAt one (orders.take i) ++ (if (decide (other = one) || (hasOther other one && !decide (tieM one other = 0))) = true then [other] else []) := by
      unfold ledAt
      rw [List.take_add_one, hx0, List.filter_append]
      congr 1
      show List.filter _ [other] = _
      rw [List.filter_cons]
      rfl
    have yes : ∀ (D : Ends) (G3 H3 : Hp), LK T.C a d pf G H G3 H3 ((ledAt one (orders.take i)).map dO) → Ex G' G3 → (∀ s4 H', LK T.C a d pf G H G3 H' ((ledAt one (orders.take i) ++ [other]).map dO) → D.nx [some (.ref a), some v1, some (.ref b2), some (.ref pf), s4] H') →
        (tDrop (tBM K "list" rAppend (tVar 3) (tCons (tVar 4) tNil))) D [some (.ref a), some v1, some (.ref b2), some (.ref pf), some x] H3 := fun D G3 H3 L3 e3 hD => by
      obtain ⟨ws, w1, w2, w3⟩ := L3.app hlt (rxG.mono e3)
      refine ⟨_, rfl, Or.inl ⟨rfl, ws, SqL.of w1⟩, _, rfl, pf, _, _, rfl, rfl, w1, w2, hD _ _ ?_⟩
      rw [List.map_append]
      exact w3
    refine (dv_eqD (K := K) (dv_var (n := 4) rfl).r (dv_var (n := 1) rfl).r (encO.shaped (by decide) other) (encO.shaped (by decide) one)) _ G' H2 L.e S0 _ fun vb G3 H3 x3 rb => ?_
    rw [encO.eqv] at rb
    obtain rfl := rb.bl_inv
    refine ⟨_, rfl, ?_⟩
    have L3 := L.ext x3
    by_cases z : other = one
    · have tk2 : ledAt one (orders.take (i + 1)) = ledAt one (orders.take i) ++ [other] := by rw [tk, decide_eq_true z, Bool.true_or, if_pos rfl]
      rw [decide_eq_true z]
      exact iteT (iteT (yes _ G3 H3 L3 x3.g fun s4 H' L' => ⟨G3, s4, rfl, by rw [tk2]; exact L'⟩))
    · rw [decide_eq_false z, Bool.false_or] at tk
      rw [decide_eq_false z]
      refine iteF ?_
      have t1 : TV H (tB (tCall (PSp RHasOther) [] E0 (tCons (tVar 4) (tCons (tVar 1) tNil)))) [.any, .imm (dO one), .any, .any, .imm (dO other)] (hasOther other one) := tv_val (dv_call (av_cons (dv_var rfl) (av_cons (dv_var rfl) av_nil)) ⟨(other, one), rfl, ⟨by show other.length ≤ 4; omega, by show one.length = other.length; omega, by show 1 ≤ other.length; omega⟩, rfl⟩).r
      refine t1 _ G3 H3 L3.e (S0.ext x3) _ fun H4 e4 => ?_
      have L4 := L3.ext (Ext.hs L3.e e4)
      cases hho : hasOther other one with
      | false =>
        rw [hho, Bool.false_and, if_neg Bool.false_ne_true, List.append_nil] at tk
        exact iteF (iteF ⟨G3, _, rfl, by rw [tk]; exact L4⟩)
      | true =>
        rw [hho, Bool.true_and] at tk
        obtain ⟨⟨dx, ha⟩, _, _⟩ := id L4.k
        refine iteT ⟨_, rfl, a, dx, _, rfl, ha, rfl, _, rfl, _, rfl, a, v1, x, G3, d, one, other, rfl, L4.k, L4.e, r1.mono (Ex.trans L3.x.g L4.e), (rxG.mono x3.g).mono L4.e, ⟨hd1, hd2⟩, fun G5 H5 x5 k5 => ?_⟩
        have L5 := L4.call x5 k5
        refine ⟨rfl, _, rfl, ?_⟩
        rw [dec_int]
        by_cases t0 : tieM one other = 0
        · rw [decide_eq_true t0] at tk ⊢
          rw [Bool.not_true, if_neg Bool.false_ne_true, List.append_nil] at tk
          exact iteF ⟨G5, _, rfl, by rw [tk]; exact L5⟩
        · rw [decide_eq_false t0] at tk ⊢
          rw [Bool.not_false, if_pos rfl] at tk
          exact iteT (yes _ G5 H5 L5 (Ex.trans x3.g x5.g) fun s4 H' L' => ⟨G5, s4, rfl, by rw [tk]; exact L'⟩)
  · subst hσ
    rw [hlen, List.take_length] at L
    obtain ⟨G9, e9, x9, k9, r9⟩ := L.fin
    exact ⟨_, rfl, k _ G9 H' x9 k9 r9⟩
end
end U
namespace U
open PySem L2 Evl
/-! ### a list of one's own -/
structure LL (pf : Addr) (Gs Hs G H : Hp) (ds : List PyData) : Prop where
  x : Ext Gs Hs G H
  l : ∃ vs, H pf = some (.lst vs) ∧ RpAll G vs ds
  gp : G pf = none
  hp : Hs pf = none
section
variable {pf : Addr} {Gs Hs G H G' H' : Hp} {ds es : List PyData}
theorem LL.ext (L : LL pf Gs Hs G H ds) (x : Ext G H G' H') : LL pf Gs Hs G' H' ds := by
  obtain ⟨vs, h, r⟩ := L.l
  exact ⟨L.x.trans x, ⟨vs, x.h _ _ h, r.mono x.g⟩, x.fr pf L.gp (ne_none h), L.hp⟩
theorem LL.extd {ws : List V} (L : LL pf Gs Hs G H ds) (r : RpAll G ws es) : ∃ vs, H pf = some (.lst vs) ∧ vs.length = ds.length ∧ LL pf Gs Hs G (upd H pf (.lst (vs ++ ws))) (ds ++ es) := by
  obtain ⟨vs, h, rv⟩ := L.l
  exact ⟨vs, h, rv.len, L.x.own L.hp L.gp, ⟨_, upd_same, rv.append r⟩, L.gp, L.hp⟩
theorem LL.start {vs : List V} (e : Ex G H) (hp : H pf = none) (r : RpAll G vs ds) : LL pf G H G (upd H pf (.lst vs)) ds :=
  ⟨Ext.hs e (Ex.new hp), ⟨vs, upd_same, r⟩, fresh_back e hp, hp⟩
theorem LL.fin (L : LL pf Gs Hs G H ds) : ∃ G', Ex G G' ∧ Ext Gs Hs G' H ∧ Rp G' (.ref pf) (.list ds) := by
  obtain ⟨vs, h, rv⟩ := L.l
  have eG := Ex.new (o := .lst vs) L.gp
  exact ⟨_, eG, L.x.still L.hp L.gp h, .lst upd_same (rv.mono eG)⟩
theorem LL.own {ρ : Rho} {σ : L2.St} {i : Nat} (L : LL pf Gs Hs G H ds) (S : Slots Hs ρ σ G H) (hn : noOwn ρ = true) : Slots Hs (ρ.set i (.own ds)) (σ.set i (some (.ref pf))) G H := by
  obtain ⟨vs, h, rv⟩ := L.l
  exact S.put ⟨pf, vs, rfl, h, rv, L.gp, L.hp⟩ fun _ _ _ _ j es hj h => absurd h (noOwn_at hn j es)
end
/-! ### dicts of lists of orders -/
abbrev Ties := List (Od × List Od)
abbrev TiIs (G : Hp) : List (List Key × V) → Ties → Prop := Paired fun a b => a.1 = ko b.1 ∧ Rp G a.2 (dOs b.2)
theorem ti_get {β : Type} {F : V → β → Prop} {kvs : List (List Key × V)} {s : List (Od × β)} (h : Paired (fun a b => a.1 = ko b.1 ∧ F a.2 b.2) kvs s) {o : Od} {l : β} (hg : getK s o = some l) : ∃ v, valV kvs (ko o) = some v ∧ F v l := by
  induction h with
  | nil => cases hg
  | @cons a b l1 l2 hab t ih =>
    by_cases e : b.1 = o
    · rw [getK_pos e] at hg
      cases hg
      exact ⟨a.2, valV_pos (by rw [hab.1, e]), hab.2⟩
    · rw [getK_neg e] at hg
      rw [valV_neg (fun z => e (ko_inj (by rw [← hab.1, z])))]
      exact ih hg
theorem ti_any {β : Type} {F : V → β → Prop} {kvs : List (List Key × V)} {s : List (Od × β)} (h : Paired (fun a b => a.1 = ko b.1 ∧ F a.2 b.2) kvs s) (o : Od) : (kvs.any fun kv => decide (kv.1 = ko o)) = s.any fun kv => decide (kv.1 = o) := by
  induction h with
  | nil => rfl
  | @cons a b l1 l2 hab t ih =>
    rw [List.any_cons, List.any_cons, ih]
    congr 1
    exact decide_eq_decide.mpr ⟨fun z => ko_inj (by rw [← hab.1, z]), fun z => by rw [hab.1, z]⟩
theorem ti_put {β : Type} {F : V → β → Prop} {kvs : List (List Key × V)} {s : List (Od × β)} {o : Od} {v : V} {l : β} (h : Paired (fun a b => a.1 = ko b.1 ∧ F a.2 b.2) kvs s) (hv : F v l) : Paired (fun a b => a.1 = ko b.1 ∧ F a.2 b.2) (putK kvs (ko o) v) (putKK s o l) := by
  unfold putK putKK
  rw [ti_any h]
  split
  · rename_i hh
    clear hh
    induction h with
    | nil => exact .nil
    | @cons a b l1 l2 hab t ih =>
      refine .cons ?_ ih
      dsimp only
      by_cases z : b.1 = o
      · rw [if_pos z, if_pos (by rw [hab.1, z])]
        exact ⟨hab.1, hv⟩
      · rw [if_neg z, if_neg fun w => z (ko_inj (by rw [← hab.1, w]))]
        exact hab
  · exact Paired.snoc h ⟨rfl, hv⟩
theorem TiIs.mono {G G' : Hp} {kvs : List (List Key × V)} {s : Ties} (e : Ex G G') (h : TiIs G kvs s) : TiIs G' kvs s := Paired.mapP h fun _ _ z => ⟨z.1, z.2.mono e⟩
theorem Rp.tup_at {G H : Hp} {v : V} {o : Od} (r : Rp G v (dO o)) (e : Ex G H) : ∃ b, v = .ref b ∧ H b = some (.tup ((ko o).map kV)) := by
  obtain ⟨b, xs, rfl, hb, rb⟩ := r.tup_inv
  obtain rfl := rb.ints
  exact ⟨b, rfl, by rw [ko_kV]; exact e _ _ hb⟩
/-! ### what is led in the end -/
def ledOk (ties : Ties) : Nat → Nat → List Od → Bool
  | 0, _, _ => false
  | m + 1, i, fd => decide (fd.length ≤ 100) && match fd[i]? with
    | none => true
    | some f => match getK ties f with
      | none => false
      | some l => decide (l.length ≤ 100) && ledOk ties m (i + 1) (fd ++ l.filter fun o => !inO o fd)
def spLO : Sp := fun vs H Q _ => ∃ (q : Addr) (v1 : V) (G : Hp) (one : Od) (kvs : List (List Key × V)) (ties : Ties), vs = [.ref q, v1] ∧ Ex G H ∧ Rd G q (.dT kvs) ∧ TiIs G kvs ties ∧ Rp G v1 (dO one) ∧ ledOk ties 30 0 [one] = true ∧
  ∀ v G' H', Ext G H G' H' → Rp G' v (dOs (ledOver ties one)) → Q v H'
section
variable {P : Program} {w : World} {K : PySem.W.Frag} {mg : Str → Option Value} {base : Heap}
theorem ok_led_over (T : Txt K mg) : FnOk P w K mg base CX0 1 T.led_over.f T.led_over.fd ["ties", "one"] spLO := by
  refine T.led_over.F.ok sc_led_over (fun vs H Q E h => ?_) (fun cdv A outer s H vs Q E hr h => ?_)
  · obtain ⟨_, _, _, _, _, _, rfl, _⟩ := h
    rfl
  refine ⟨_, (pss_cons (ps_set (i := 2) sc_led_over.nd rfl (Or.inr rfl) (pe_lst (pa_cons (pv 1) pa_nil)))
      (pss_cons (ps_set (i := 3) sc_led_over.nd rfl (Or.inl rfl) pe_int)
      (pss_cons (ps_while PassesOwn.never (pt_cmpR op_lt (pv 3) (pe_callB (k_len (K := K) rfl) (by rfl) T.len (by decide +kernel) (pa_cons (pv 2) pa_nil)) (nomark _))
        (pss_cons (ps_expr (pe_bm PySem.F.plainAttrs_list PySem.F.slot_list_extend PySem.F.type_list_extend mt_extend (pv 2) (pa_cons (pe_lc (own := [("other", 4)]) (g := gName 4) rfl sc_led_over.nd (kpi_list (K := K) rfl (pe_dget (hu_of hr) (pv 0) (pe_ix (k_ixL (K := K) rfl) (pv 2) (pv 3) (fun _ _ => rfl)) (fun _ _ => rfl))) (blkOk_by (N := ["ties", "one", "found", "at", "other"]) (sc := defScope s_led_over) (by decide +kernel)) (fun _ _ _ _ _ => (pg_name (i := 4) sc_led_over.nd rfl (by first | exact Or.inl rfl | exact Or.inr rfl))) (fun _ _ _ _ _ => (pts_one (pt_cmpR (k_niD (K := K) rfl (hu65 hr)) (pv 4) (pv 2) (by rfl)))) (fun _ _ _ _ _ => (pv 4))) pa_nil)))
        (pss_one (ps_aug (i := 3) sc_led_over.nd rfl (Or.inl rfl) pe_int ip_add))))
      (pss_one (ps_ret (pv 2)))))), ?_⟩
  obtain ⟨q, v1, G, one, kvs, ties, rfl, e, hq, ht, r1, hok, k⟩ := h
  refine ⟨_, rfl, by show 1 ≤ sizeLine; decide, fun pf hpf => ?_⟩
  have L0 := LL.start (ds := [dO one]) e hpf (.one r1)
  unfold ledOver at k
  generalize hR : ledLoop ties 30 0 [one] = R at k
  refine ⟨fun m σ' H' => ∃ (G' : Hp) (fd : List Od) (i : Nat) (s4 : Option V), σ' = [some (.ref q), some v1, some (.ref pf), some (.int (i : Nat)), s4] ∧ LL pf G H G' H' (fd.map dO) ∧ ledOk ties m i fd = true ∧ ledLoop ties m i fd = R, ⟨30, G, [one], 0, none, rfl, L0, hok, hR⟩, ?_⟩
  rintro m σ' H' ⟨G', fd, i, s4, rfl, L, ok, heq⟩
  cases m with
  | zero => cases ok
  | succ m =>
    unfold ledOk at ok
    obtain ⟨ok1, ok2⟩ := Bool.and_eq_true_iff.mp ok
    have ok1 := of_decide_eq_true ok1
    obtain ⟨vs, hvs, rvs⟩ := L.l
    have hvl : vs.length = fd.length := by rw [rvs.len, List.length_map]
    refine ⟨_, rfl, _, rfl, pf, vs, rfl, Or.inl (SqL.of hvs), (i : Nat), (vs.length : Nat), rfl, rfl, _, rfl, ?_⟩
    unfold ledLoop at heq
    cases hf : fd[i]? with
    | none =>
      rw [hf] at heq
      have heq : fd = _ := heq
      have hge : fd.length ≤ i := List.getElem?_eq_none_iff.mp hf
      refine iteF' (decide_eq_false (by omega)) ⟨_, rfl, ?_⟩
      obtain ⟨G9, e9, x9, r9⟩ := L.fin
      exact k _ G9 H' x9 (by rw [← heq]; exact r9)
    | some f =>
      rw [hf] at heq ok2
      have hlt : i < fd.length := (List.getElem?_eq_some_iff.mp hf).1
      have ok2 : (match getK ties f with
        | none => false
        | some l => decide (l.length ≤ 100) && ledOk ties m (i + 1) (fd ++ l.filter fun o => !inO o fd)) = true := ok2
      cases hg : getK ties f with
      | none =>
        rw [hg] at ok2
        cases ok2
      | some l =>
        have heq : ledLoop ties m (i + 1) (fd ++ ((getK ties f).getD []).filter fun o => !inO o fd) = _ := heq
        rw [hg] at heq ok2
        have ok2 : (decide (l.length ≤ 100) && ledOk ties m (i + 1) (fd ++ l.filter fun o => !inO o fd)) = true := ok2
        have heq : ledLoop ties m (i + 1) (fd ++ l.filter fun o => !inO o fd) = _ := heq
        obtain ⟨ok3, ok4⟩ := Bool.and_eq_true_iff.mp ok2
        have ok3 := of_decide_eq_true ok3
        refine iteT' (decide_eq_true (by omega)) ⟨_, fun σ' H' h => ⟨m, Nat.lt_succ_self m, h⟩, ?_⟩
        obtain ⟨vf, hvf, rvf⟩ := rvs.at (map_at (f := dO) hf)
        obtain ⟨vl, hvl2, rvl⟩ := ti_get (F := fun v l => Rp G v (dOs l)) ht hg
        obtain ⟨bf, rfl, hbf⟩ := rvf.tup_at L.x.gh
        obtain ⟨al, ws, rfl, hal, ral⟩ := rvl.lst_inv
        have hq' : Rd H' q (.dT kvs) := Rd.ex L.x.gh (Rd.ex L.x.g hq)
        have hal' := L.x.g _ _ hal
        have hwl : ws.length = l.length := by rw [ral.len, List.length_map]
        refine ⟨_, rfl, Or.inl ⟨rfl, vs, SqL.of hvs⟩, _, rfl, _, rfl, _, rfl, pf, vs, (i : Nat), .ref bf, rfl, rfl, SqL.of hvs, atI_nat hvf, q, .ref al, rfl, Or.inr ⟨kvs, ko f, bf, hq', rfl, hbf, hvl2.symm⟩, al, rfl, ⟨ws, SqL.of (L.x.gh _ _ hal')⟩, fun D hD => ?_⟩
        have S0 : Slots H [.any, .any, .own (fd.map dO), .any, .any] [some (.ref q), some v1, some (.ref pf), some (.int (i : Nat)), s4] G' H' := L.own (i := 2) (anyS [some (.ref q), some v1, some (.ref pf), some (.int (i : Nat)), s4]) rfl
        refine lc_datX (fe := dO) (xs := l) (walk_list (K := K) (a := al) (xs := ws)) L.x.gh S0 (fun H2 e2 => SqL.of (e2 _ _ (L.x.gh _ _ hal'))) (fun j H2 x H3 _ _ y => ⟨y.1, (ral.mono L.x.g).ofVX y.2⟩) hwl (by omega) hD (fun o => !inO o fd) dO (fun o ho => ?_) (fun o ho _ => dv_var rfl) fun us G3 H3 x3 gD hD3 rus => ?_
        · refine tv_cmp ((dv_niD (ds := fd.map dO) (d := dO o) (dv_var rfl).r (dvr_own rfl) (encO.shaped (by decide) o) (encOs.shaped (by decide) fd)).r.is ?_)
          rw [any_enc encO]
          rfl
        · obtain ⟨vs3, hvs3, hl3, L3⟩ := (L.ext x3).extd rus
          have hul : us.length ≤ 100 := by
            rw [rus.len, List.length_map]
            exact Nat.le_trans (List.length_filter_le _ _) ok3
          refine ⟨pf, D, vs3, us, rfl, rfl, hvs3, hD3, ?_, ?_⟩
          · rw [hl3, List.length_map]
            show _ ≤ 2 ^ 24
            omega
          · refine ⟨_, rfl, (i : Nat), 1, rfl, rfl, G3, fd ++ l.filter (fun o => !inO o fd), i + 1, _, rfl, ?_, ok4, heq⟩
            rw [List.map_append]
            exact L3
/-! ### the numbers of a hearth -/
def numT (h : List Od) : List (List (List Int)) := (List.range ((h.getD 0 []).length - 1)).map fun i => h.map fun one => h.map fun other => numM (i + 1) one other
def numOk (h : List Od) : Bool := decide (1 ≤ h.length) && decide (h.length ≤ 100) && h.all fun o => decide (o ∈ dom) && decide (o.length = (h.getD 0 []).length)
abbrev RNumT := RF (fun h : List Od => [dOs h]) (fun h => numOk h = true) fun h => dLLL (numT h)
theorem ok_number_tables (T : Txt K mg) : FnOk P w K mg base CX0 23 T.number_tables.f T.number_tables.fd ["hearth"] (PSp RNumT) := by
  refine T.number_tables.F.ok sc_number_tables (fun vs H Q E h => psp_len (rf_len fun _ => rfl) h) (fun cdv A outer s H vs Q E hr h => ?_)
  refine ⟨_, (pss_cons (ps_set (i := 1) sc_number_tables.nd rfl (Or.inr rfl) (pe_make0 T.mkK (ok_K_init T) (hr.mono (by decide)) rfl T.gC T.K_init.b .nil pass0))
      (pss_cons (ps_set (i := 2) sc_number_tables.nd rfl (Or.inl rfl) (pe_lst pa_nil))
      (pss_cons (ps_for PassesOwn.never rfl (pi_range2 (by rfl) T.range (pa_cons pe_int (pa_cons (pe_callB (k_len (K := K) rfl) (by rfl) T.len (by decide +kernel) (pa_cons (pe_ix (k_ixL (K := K) rfl) (pv 0) pe_int (fun _ _ => rfl)) pa_nil)) pa_nil))) (pg_name (i := 3) sc_number_tables.nd rfl (Or.inr rfl))
        (pss_one (ps_expr (pe_bm PySem.F.plainAttrs_list PySem.F.slot_list_append PySem.F.type_list_append mt_append (pv 2) (pa_cons (pe_lc (own := [("one", 4)]) (g := gName 4) (tt := tYes) rfl sc_number_tables.nd (kpi_list (K := K) rfl (pv 0)) (blkOk_by (N := ["hearth", "keeping", "found", "k", "one", "other"]) (sc := defScope s_number_tables) (by decide +kernel)) (fun _ _ _ _ _ => (pg_name (i := 4) sc_number_tables.nd rfl (by first | exact Or.inl rfl | exact Or.inr rfl))) (fun _ _ _ _ _ => pts_nil) (fun _ _ _ _ _ => (pe_lc (own := [("other", 5)]) (g := gName 5) (tt := tYes) rfl sc_number_tables.nd (kpi_list (K := K) rfl (pv 0)) (blkOk_by (N := ["hearth", "keeping", "found", "k", "one", "other"]) (sc := relS _ (defScope s_number_tables)) (by decide +kernel)) (fun _ _ _ _ _ => (pg_name (i := 5) sc_number_tables.nd rfl (by first | exact Or.inl rfl | exact Or.inr rfl))) (fun _ _ _ _ _ => pts_nil) (fun _ _ _ _ _ => (pe_dn T.number_at (ok_number_at T) hr (by decide) (pa_cons (pv 1) (pa_cons (pv 3) (pa_cons (pv 4) (pa_cons (pv 5) pa_nil))))))))) pa_nil)))))
      (pss_one (ps_ret (pv 2)))))), ?_⟩
  obtain ⟨G, ds, d, e, r, ⟨h, rfl, hok, rfl⟩, q⟩ := h
  cases r with
  | @cons v0 _ _ _ r0 r =>
  cases r
  unfold numOk at hok
  simp only [Bool.and_eq_true, decide_eq_true_eq, List.all_eq_true] at hok
  obtain ⟨⟨hl1, hl2⟩, ho⟩ := hok
  obtain ⟨o0, ho0⟩ : ∃ o, h[0]? = some o := ⟨h[0], List.getElem?_eq_getElem (by omega)⟩
  have e0 : h.getD 0 [] = o0 := by rw [List.getD_eq_getElem?_getD, ho0]; rfl
  have d0 := dom_inv (ho o0 (List.mem_of_getElem? ho0)).1
  have eq0 : numT h = (List.range (o0.length - 1)).map fun i => h.map fun one => h.map fun other => numM (i + 1) one other := by
    unfold numT
    rw [e0]
  have q : ∀ (v : V) (G' H' : Hp), Ext G H G' H' → Rp G' v (dLLL (numT h)) → Q v H' := q
  rw [eq0] at q
  rw [e0] at ho
  refine s_seq (mk_keep e fun a dd H1 x1 kp ha hdd => ?_)
  refine s_seq ⟨by show 0 ≤ sizeLine; decide, fun pf hpf => ?_⟩
  have L0 := LK.start x1.gh kp hpf
  have S0 : Slots H [.imm (dOs h), .any, .any, .any, .any, .any] [some v0, some (.ref a), some (.ref pf), none, none, none] G (upd H1 pf (.lst [])) := (anyS [some v0, some (.ref a), some (.ref pf), none, none, none]).setImm (i := 0) r0
  have av : AVr H (tCons (tC (.int 1)) (tCons (tCB (fun xs H Q => ∃ p ys, xs = [V.ref p] ∧ (SqL K H p ys ∨ SqT K H p ys) ∧ Q (V.int (ys.length : Nat)) H) (tCons (tOp (rIxL K) (tVar 0) (tC (.int 0))) tNil)) tNil)) [.imm (dOs h), .any, .any, .any, .any, .any] [.int 1, .int ((o0.map PyData.int).length : Nat)] :=
    ar_cons dv_int.r (ar_cons (dv_lenT (ds := o0.map .int) (dv_ixL (n := 0) (dv_var rfl) dv_int.r rfl (map_at (f := dO) ho0)).r).r ar_nil)
  dsimp only [gName]
  refine s_seq ?_
  unfold tFor iRng2
  refine av _ G _ L0.e S0 _ fun vs H2 e2 r2 => ?_
  cases r2 with
  | cons ra rr =>
  cases rr with
  | cons rb rr =>
  cases rr
  obtain rfl := ra.int_inv
  obtain rfl := rb.int_inv
  rw [List.length_map]
  refine ⟨1, (o0.length : Nat), rfl, ⟨by decide, by decide, by omega, by omega⟩, ?_⟩
  have en : (((o0.length : Nat) : Int) - 1).toNat = o0.length - 1 := by omega
  rw [en]
  have L2 := L0.ext (Ext.hs L0.e e2)
  refine for_it (walk_range (lo := 1) (n := o0.length - 1)) (fun i σ' H' => ∃ G' s3, σ' = [some v0, some (.ref a), some (.ref pf), s3, none, none] ∧ LK T.C a dd pf G H1 G' H' (((List.range i).map fun i => h.map fun one => h.map fun other => numM (i + 1) one other).map dLL)) ⟨G, none, rfl, L2⟩ (fun _ _ _ _ _ => True.intro) (fun i x σ' H' H'' hi ⟨G', s3, hσ, L⟩ y => ?_) fun σ' H' ⟨G', s3, hσ, L⟩ => ?_
  · subst hσ
    obtain ⟨rfl, rfl⟩ := y
    have ei : (1 : Int) + (i : Nat) = ((i + 1 : Nat) : Int) := by omega
    show gName 3 (V.int (1 + (i : Nat))) _ _ _
    rw [ei]
    obtain ⟨us, hus, _⟩ := L.l
    refine ⟨_, rfl, Or.inl ⟨rfl, us, SqL.of hus⟩, ?_⟩
    have S1 : Slots H [.imm (dOs h), .any, .any, .imm (dI ((i + 1 : Nat) : Int)), .any, .any] [some v0, some (.ref a), some (.ref pf), some (.int ((i + 1 : Nat) : Int)), none, none] G' H'' := ((anyS [some v0, some (.ref a), some (.ref pf), some (.int ((i + 1 : Nat) : Int)), none, none]).setImm (i := 0) (r0.mono L.x.g)).setImm (i := 3) (.int _)
    have ev : EV T.C a dd 1 (tLc (iList K (tVar 0)) (gName 4) tYes (tLc (iList K (tVar 0)) (gName 5) tYes (tCall (spNA T.C) [] E0 (tCons (tVar 1) (tCons (tVar 3) (tCons (tVar 4) (tCons (tVar 5) tNil))))) [5]) [4]) [.imm (dOs h), .any, .any, .imm (dI ((i + 1 : Nat) : Int)), .any, .any]
        (dLL (h.map fun one => h.map fun other => numM (i + 1) one other)) := by
      show EV T.C a dd 1 _ _ (.list ((h.map fun one => h.map fun other => numM (i + 1) one other).map dLs))
      rw [List.map_map]
      refine ev_lc (fe := dO) (fun _ => dv_var rfl) rfl (by decide) (by omega) fun one h1 => ?_
      show EV T.C a dd 1 _ _ (.list ((h.map fun other => numM (i + 1) one other).map dI))
      rw [List.map_map]
      refine ev_lc (fe := dO) (fun _ => dv_var rfl) rfl (by decide) (by omega) fun other h2 => ?_
      intro H0 σ Ga Ha ea Sa h1a ka Qa qa
      obtain ⟨v3, hv3, r3⟩ := Sa.imm_at (i := 3) (d := dI ((i + 1 : Nat) : Int)) rfl
      obtain rfl := r3.int_inv
      obtain ⟨v4, hv4, r4⟩ := Sa.imm_at (i := 4) (d := dO one) rfl
      obtain ⟨v5, hv5, r5⟩ := Sa.imm_at (i := 5) (d := dO other) rfl
      obtain ⟨d1, l1⟩ := ho one h1
      obtain ⟨d2, l2⟩ := ho other h2
      exact ⟨_, h1a, _, hv3, _, hv4, _, hv5, a, i + 1, v4, v5, Ga, dd, one, other, rfl, ka, ea, r4, r5, ⟨by omega, by omega, by omega, d1, d2⟩, fun G4 H4 x4 k4 => qa _ G4 H4 x4 k4 (.int _)⟩
    refine ev H _ G' H'' L.e S1 rfl L.k _ fun v G4 H4 x4 k4 r4 => ?_
    have L4 := L.call x4 k4
    obtain ⟨ws, w1, w2, w3⟩ := L4.app (by rw [List.length_map, List.length_map, List.length_range]; omega) r4
    refine ⟨pf, _, _, rfl, rfl, w1, w2, G4, _, rfl, ?_⟩
    rw [List.range_succ, List.map_append, List.map_append]
    exact w3
  · subst hσ
    obtain ⟨G9, e9, x9, k9, r9⟩ := L.fin
    refine ⟨_, rfl, q _ G9 H' ⟨fun b ob hb => ?_, Ex.trans x1.g x9.g, x9.gh, fun b g hb => x9.fr b (x1.fr b g hb) (Ex.ne x1.h hb)⟩ r9⟩
    exact x9.h b ob (x1.h b ob hb) fun z => ne_none hb (by rw [z]; exact hdd)
end
end U
namespace U
open PySem L2 Evl
/-! ### a dict of one's own, of lists of orders, while a Keeping learns -/
structure TK (C a d t : Addr) (Gs Hs G H : Hp) (ties : Ties) : Prop where
  x : ExtK d Gs Hs G H
  k : KeepAt C G H a d
  l : ∃ kvs, H t = some (.dT kvs) ∧ TiIs G kvs ties
  gp : G t = none
  hp : Hs t = none
  td : t ≠ d
section
variable {C a d t : Addr} {Gs Hs G H G' H' : Hp} {ties : Ties}
theorem TK.e (L : TK C a d t Gs Hs G H ties) : Ex G H := L.x.gh
theorem TK.ext (L : TK C a d t Gs Hs G H ties) (x : Ext G H G' H') : TK C a d t Gs Hs G' H' ties := by
  obtain ⟨vs, h, r⟩ := L.l
  exact ⟨L.x.trans (x.k d), L.k.ext x, ⟨vs, x.h _ _ h, r.mono x.g⟩, x.fr t L.gp (ne_none h), L.hp, L.td⟩
theorem TK.call (L : TK C a d t Gs Hs G H ties) (x : ExtK d G H G' H') (k : KeepAt C G' H' a d) : TK C a d t Gs Hs G' H' ties := by
  obtain ⟨vs, h, r⟩ := L.l
  exact ⟨L.x.trans x, k, ⟨vs, x.h _ _ h L.td, r.mono x.g⟩, x.fr t L.gp (ne_none h), L.hp, L.td⟩
theorem TK.put {v : V} {o : Od} {l : List Od} (L : TK C a d t Gs Hs G H ties) (hl : ties.length < 1000) (r : Rp G v (dOs l)) : ∃ kvs, H t = some (.dT kvs) ∧ kvs.length < sizeLine ∧ TK C a d t Gs Hs G (upd H t (.dT (putK kvs (ko o) v))) (putKK ties o l) := by
  obtain ⟨kvs, h, rv⟩ := L.l
  obtain ⟨⟨dx, h1⟩, ⟨kd, os, h2, _⟩, h4⟩ := id L.k
  have hlen : kvs.length = ties.length := Paired.length rv
  refine ⟨kvs, h, by rw [hlen]; exact sz_lt (by omega), ⟨fun b ob hb n => ?_, fun b hb => ?_, L.x.g, Ex.mut L.x.gh L.gp, L.x.fr⟩, L.k.re (upd_ne (ne_of h1 h fun z => nomatch z)) (upd_ne (Ne.symm L.td)) h4 (fun v s r => r), ⟨_, upd_same, ti_put (F := fun v l => Rp G v (dOs l)) rv r⟩, L.gp, L.hp, L.td⟩
  · rw [upd_ne fun z => by rw [z, L.hp] at hb; cases hb]
    exact L.x.h b ob hb n
  · by_cases z : b = t
    · rw [z, upd_same]
      exact fun z => nomatch z
    · rw [upd_ne z]
      exact L.x.ne b hb
theorem TK.start (e : Ex G H) (k : KeepAt C G H a d) (hp : H t = none) : TK C a d t G H G (upd H t (.dT [])) [] := by
  have x := Ext.hs e (Ex.new (o := .dT []) hp)
  exact ⟨x.k d, k.ext x, ⟨[], upd_same, .nil⟩, fresh_back e hp, hp, fun z => k.hd (by rw [← z]; exact hp)⟩
theorem TK.fin (L : TK C a d t Gs Hs G H ties) : ∃ G' kvs, Ex G G' ∧ ExtK d Gs Hs G' H ∧ KeepAt C G' H a d ∧ G' t = some (.dT kvs) ∧ TiIs G' kvs ties := by
  obtain ⟨kvs, h, rv⟩ := L.l
  have eG := Ex.new (o := .dT kvs) L.gp
  refine ⟨upd G t (.dT kvs), kvs, eG, ⟨L.x.h, L.x.ne, Ex.trans L.x.g eG, fun b ob hb => ?_, fun b h1 h2 => ?_⟩, L.k.re rfl rfl (by rw [upd_ne (Ne.symm L.td)]; exact L.k.nd) (fun v s r => r.mono eG), upd_same, rv.mono eG⟩
  · by_cases z : b = t
    · rw [z, upd_same] at hb
      rw [z, h, ← hb]
    · rw [upd_ne z] at hb
      exact L.e b ob hb
  · rw [upd_ne fun z => h2 (by rw [z]; exact L.hp)]
    exact L.x.fr b h1 h2
end
/-! ### the hearths -/
def tiesF (n : Nat) : Ties := (allO n).foldl (fun t o => putKK t o (ledAt o (allO n))) []
def ledF (n : Nat) : Ties := (allO n).foldl (fun t o => putKK t o (ledOver (tiesF n) o)) []
def rightsN (n : Nat) : List (List Od) := rightsG (allO n) (ledF n)
def rightsOk (n : Nat) : Bool := decide ((allO n).length ≤ 100) && (allO n).all fun o => decide (o ∈ dom) && decide (o.length = n) && ledOk (tiesF n) 30 0 [o] && (getK (ledF n) o).isSome
theorem rights_ok : ∀ n, n < 5 → 1 ≤ n → rightsOk n = true := by decide +kernel
theorem foldT_len (f : Od → List Od) : ∀ (l : List Od) (t : Ties), (l.foldl (fun t o => putKK t o (f o)) t).length ≤ t.length + l.length
  | [], t => Nat.le_refl _
  | o :: l, t => by
    have h1 := foldT_len f l (putKK t o (f o))
    have h2 := putKK_len t o (f o)
    rw [List.foldl_cons, List.length_cons]
    omega
theorem rightsG_len (orders : List Od) (led : Ties) : ∀ (l : List Od) (f : List (List Od)), (l.foldl (fun found one => addNew found (hearthOf orders led one)) f).length ≤ f.length + l.length
  | [], f => Nat.le_refl _
  | o :: l, f => by
    have h1 := rightsG_len orders led l (addNew f (hearthOf orders led o))
    have h2 : (addNew f (hearthOf orders led o)).length ≤ f.length + 1 := by
      unfold addNew
      split
      · omega
      · rw [List.length_append, List.length_singleton]
        omega
    rw [List.foldl_cons, List.length_cons]
    omega
abbrev RRights := RF (fun n : Nat => [dI n]) (fun n => 1 ≤ n ∧ n ≤ 4) fun n => dOss (rightsN n)
section
variable {P : Program} {w : World} {K : PySem.W.Frag} {mg : Str → Option Value} {base : Heap}
theorem ok_right_hearths (T : Txt K mg) : FnOk P w K mg base CX0 23 T.right_hearths.f T.right_hearths.fd ["n"] (PSp RRights) := by
  refine T.right_hearths.F.ok sc_right_hearths (fun vs H Q E h => psp_len (rf_len fun _ => rfl) h) (fun cdv A outer s H vs Q E hr h => ?_)
  refine ⟨_, (pss_cons (ps_expr (pe_dn T.look_at (ok_look_at T) hr (by decide) (pa_cons (pv 0) pa_nil)))
      (pss_cons (ps_set (i := 1) sc_right_hearths.nd rfl (Or.inl rfl) (pe_make0 T.mkK (ok_K_init T) (hr.mono (by decide)) rfl T.gC T.K_init.b .nil pass0))
      (pss_cons (ps_set (i := 2) sc_right_hearths.nd rfl (Or.inl rfl) (pe_dn T.all_orders (ok_all_orders T) hr (by decide) (pa_cons (pv 0) pa_nil)))
      (pss_cons (ps_set (i := 3) sc_right_hearths.nd rfl (Or.inl rfl) pe_dnewT)
      (pss_cons (ps_for PassesOwn.never rfl (kpi_list (K := K) rfl (pv 2)) (pg_name (i := 4) sc_right_hearths.nd rfl (Or.inr rfl))
        (pss_one (ps_dput (hu_of hr) (pv 3) (pv 4) (pe_dn T.led_at_once (ok_led_at_once T) hr (by decide) (pa_cons (pv 1) (pa_cons (pv 4) (pa_cons (pv 2) pa_nil)))) rfl)))
      (pss_cons (ps_set (i := 5) sc_right_hearths.nd rfl (Or.inr rfl) pe_dnewT)
      (pss_cons (ps_for PassesOwn.never rfl (kpi_list (K := K) rfl (pv 2)) (pg_name (i := 4) sc_right_hearths.nd rfl (Or.inr rfl))
        (pss_one (ps_dput (hu_of hr) (pv 5) (pv 4) (pe_dn T.led_over (ok_led_over T) hr (by decide) (pa_cons (pv 3) (pa_cons (pv 4) pa_nil))) rfl)))
      (pss_cons (ps_set (i := 6) sc_right_hearths.nd rfl (Or.inl rfl) (pe_lst pa_nil))
      (pss_cons (ps_for PassesOwn.never rfl (kpi_list (K := K) rfl (pv 2)) (pg_name (i := 4) sc_right_hearths.nd rfl (Or.inr rfl))
        (pss_cons (ps_setLc (i := 7) (own := [("other", 8)]) (g := gName 8) rfl sc_right_hearths.nd rfl rfl (sw_true rfl rfl rfl (by decide +kernel)) (kpi_list (K := K) rfl (pv 2)) (blkOk_by (N := ["n", "keeping", "orders", "ties", "one", "led", "found", "hearth", "other"]) (sc := defScope s_right_hearths) (by decide +kernel)) (fun _ _ _ _ _ => (pg_name (i := 8) sc_right_hearths.nd rfl (by first | exact Or.inl rfl | exact Or.inr rfl))) (fun _ _ _ _ _ => (pts_one (PW.pt (pw_and (pt_cmpR (k_inD (K := K) rfl (hu65 hr)) (pv 8) (pe_dget (hu_of hr) (pv 5) (pv 4) (fun _ _ => rfl)) (by rfl)) (pw_and1 (pt_cmpR (k_inD (K := K) rfl (hu65 hr)) (pv 4) (pe_dget (hu_of hr) (pv 5) (pv 8) (fun _ _ => rfl)) (by rfl))))))) (fun _ _ _ _ _ => (pv 8)))
        (pss_one (ps_if (pt_cmpR (k_niD (K := K) rfl (hu65 hr)) (pv 7) (pv 6) (by rfl))
          (pss_one (ps_expr (pe_bm PySem.F.plainAttrs_list PySem.F.slot_list_append PySem.F.type_list_append mt_append (pv 6) (pa_cons (pv 7) pa_nil))))
          pss_nil))))
      (pss_one (ps_ret (pv 6)))))))))))), ?_⟩
  obtain ⟨G, ds, d0, e, r, ⟨n, rfl, ⟨hn1, hn4⟩, rfl⟩, q⟩ := h
  cases r with
  | @cons v0 _ _ _ r0 r =>
  cases r
  obtain rfl := r0.int_inv
  have hn1 : 1 ≤ n := hn1
  have hn4 : n ≤ 4 := hn4
  have q : ∀ (v : V) (G' H' : Hp), Ext G H G' H' → Rp G' v (dOss (rightsN n)) → Q v H' := q
  have ok := rights_ok n (by omega) hn1
  unfold rightsOk at ok
  simp only [Bool.and_eq_true, decide_eq_true_eq, List.all_eq_true] at ok
  obtain ⟨ok1, ok2⟩ := ok
  unfold rightsN at q
  have S0 : Slots H [.imm (dI n), .any, .any, .any, .any, .any, .any, .any, .any] [some (.int n), none, none, none, none, none, none, none, none] G H := (anyS [some (.int n), none, none, none, none, none, none, none, none]).setImm (i := 0) (.int _)
  have d1 : DV H (tCall (PSp RLookAt) [] E0 (tCons (tVar 0) tNil)) [.imm (dI n), .any, .any, .any, .any, .any, .any, .any, .any] .none := dv_call (av_cons (dv_var rfl) av_nil) ⟨n, rfl, hn4, rfl⟩
  refine s_seq (d1 _ G H e S0 _ fun _ G1 H1 x1 _ => ?_)
  dsimp only
  refine s_seq (mk_keep x1.gh fun a dd H2 x2 kp ha hdd => ?_)
  dsimp only [gName]
  have x12 := x1.trans x2
  have d2 : DV H (tCall (PSp RAll) [] E0 (tCons (tVar 0) tNil)) [.imm (dI n), .any, .any, .any, .any, .any, .any, .any, .any] (dOs (allO n)) := dv_call (av_cons (dv_var rfl) av_nil) ⟨n, rfl, hn4, rfl⟩
  have S2 : Slots H [.imm (dI n), .any, .any, .any, .any, .any, .any, .any, .any] [some (.int n), some (.ref a), none, none, none, none, none, none, none] G1 H2 := (anyS [some (.int n), some (.ref a), none, none, none, none, none, none, none]).setImm (i := 0) (.int _)
  refine s_seq (d2 _ G1 H2 x2.gh S2 _ fun vos G3 H3 x3 r3 => ?_)
  dsimp only [gName]
  have kp3 := kp.ext x3
  have x13 := x12.trans x3
  generalize hords : allO n = orders at r3 ok1 ok2 q
  obtain ⟨al, xs, rfl, hal, ral⟩ := r3.lst_inv
  have hxl : xs.length = orders.length := by rw [ral.len, List.length_map]
  -- ties
  refine s_seq fun t ht => ?_
  dsimp only [gName]
  have L0 := TK.start x3.gh kp3 ht
  refine s_seq ⟨_, rfl, al, rfl, ⟨xs, SqL.of (L0.e _ _ hal)⟩, ?_⟩
  refine for_it (walk_list (K := K) (a := al) (xs := xs)) (fun i σ' H' => ∃ G' s4, σ' = [some (.int n), some (.ref a), some (.ref al), some (.ref t), s4, none, none, none, none] ∧ TK T.C a dd t G3 H3 G' H' ((orders.take i).foldl (fun t o => putKK t o (ledAt o orders)) [])) ⟨G3, none, rfl, L0⟩
    (fun i σ' H' _ ⟨G', s4, hσ, L⟩ => SqL.of (L.e _ _ (L.x.g _ _ hal))) (fun i x σ' H' H'' hi ⟨G', s4, hσ, L⟩ y => ?_) fun σ' H' ⟨G', s4, hσ, L⟩ => ?_
  · subst hσ
    obtain ⟨rfl, hx⟩ := y
    obtain ⟨one, hx0, rx⟩ := ral.ofVX hx
    obtain ⟨⟨⟨c1, c2⟩, c3⟩, c4⟩ := ok2 one (List.mem_of_getElem? hx0)
    refine ⟨_, rfl, _, rfl, _, rfl, a, x, .ref al, G', dd, one, orders, rfl, L.k, L.e, rx.mono L.x.g, r3.mono L.x.g, ⟨c1, ok1, fun o ho => ?_⟩, fun v G4 H4 x4 k4 r4 => ?_⟩
    · obtain ⟨⟨⟨b1, b2⟩, _⟩, _⟩ := ok2 o ho
      exact ⟨b1, by rw [b2, c2]⟩
    · have L4 := L.call x4 k4
      obtain ⟨bx, rfl, hbx⟩ := (rx.mono L4.x.g).tup_at L4.e
      have hl : ((orders.take i).foldl (fun t o => putKK t o (ledAt o orders)) []).length ≤ ([] : Ties).length + (orders.take i).length := foldT_len (fun o => ledAt o orders) (orders.take i) []
      have hz : ([] : Ties).length = 0 := rfl
      obtain ⟨kvs, w1, w2, w3⟩ := L4.put (o := one) (Nat.lt_of_le_of_lt hl (by rw [List.length_take]; omega)) r4
      refine ⟨_, rfl, _, rfl, t, _, rfl, DPut.t w1 hbx w2, G4, _, rfl, ?_⟩
      rw [foldl_take (fun t o => putKK t o (ledAt o orders)) hx0]
      exact w3
  subst hσ
  rw [hxl, List.take_length] at L
  obtain ⟨G5, kt, e5, x5, k5, ht5, ti5⟩ := L.fin
  have etf : tiesF n = orders.foldl (fun t o => putKK t o (ledAt o orders)) [] := by unfold tiesF; rw [hords]
  rw [← etf] at ti5
  clear L L0
  -- led
  refine s_seq fun t2 ht2 => ?_
  dsimp only [gName]
  have M0 := TK.start x5.gh k5 ht2
  refine s_seq ⟨_, rfl, al, rfl, ⟨xs, SqL.of (M0.e _ _ (x5.g _ _ hal))⟩, ?_⟩
  refine for_it (walk_list (K := K) (a := al) (xs := xs)) (fun i σ2 H2 => ∃ G2 s4, σ2 = [some (.int n), some (.ref a), some (.ref al), some (.ref t), s4, some (.ref t2), none, none, none] ∧ TK T.C a dd t2 G5 H' G2 H2 ((orders.take i).foldl (fun t o => putKK t o (ledOver (tiesF n) o)) [])) ⟨G5, _, rfl, M0⟩
    (fun i σ' H' _ ⟨G', s4, hσ, L⟩ => SqL.of (L.e _ _ (L.x.g _ _ (x5.g _ _ hal)))) (fun i x σ' H' H'' hi ⟨G', s4, hσ, L⟩ y => ?_) fun σ6 H6 ⟨G6, s6, hσ, L6⟩ => ?_
  · subst hσ
    obtain ⟨rfl, hx⟩ := y
    obtain ⟨one, hx0, rx⟩ := ral.ofVX hx
    obtain ⟨⟨⟨c1, c2⟩, c3⟩, c4⟩ := ok2 one (List.mem_of_getElem? hx0)
    have gt : G' t = some (.dT kt) := L.x.g _ _ ht5
    have rx5 := rx.mono (Ex.trans x5.g L.x.g)
    refine ⟨_, rfl, _, rfl, t, x, G', one, kt, tiesF n, rfl, L.e, Or.inl gt, ti5.mono L.x.g, rx5, c3, fun v G4 H4 x4 r4 => ?_⟩
    have L4 := L.ext x4
    obtain ⟨bx, rfl, hbx⟩ := (rx5.mono x4.g).tup_at L4.e
    have hl : ((orders.take i).foldl (fun t o => putKK t o (ledOver (tiesF n) o)) []).length ≤ ([] : Ties).length + (orders.take i).length := foldT_len (fun o => ledOver (tiesF n) o) (orders.take i) []
    have hz : ([] : Ties).length = 0 := rfl
    obtain ⟨kvs, w1, w2, w3⟩ := L4.put (o := one) (Nat.lt_of_le_of_lt hl (by rw [List.length_take]; omega)) r4
    refine ⟨_, rfl, _, rfl, t2, _, rfl, DPut.t w1 hbx w2, G4, _, rfl, ?_⟩
    rw [foldl_take (fun t o => putKK t o (ledOver (tiesF n) o)) hx0]
    exact w3
  subst hσ
  rw [hxl, List.take_length] at L6
  obtain ⟨G7, kl, e7, x7, k7, ht7, ti7⟩ := L6.fin
  have elf : ledF n = orders.foldl (fun t o => putKK t o (ledOver (tiesF n) o)) [] := by unfold ledF; rw [hords]
  rw [← elf] at ti7
  have x57 := x5.trans x7
  have hal7 := x57.g _ _ hal
  have ral7 := ral.mono x57.g
  -- found
  refine s_seq ⟨by show 0 ≤ sizeLine; decide, fun pf hpf => ?_⟩
  dsimp only [gName]
  have N0 := LK.start x7.gh k7 hpf
  generalize ledF n = led at q ok2 ti7
  refine s_seq ⟨_, rfl, al, rfl, ⟨xs, SqL.of (N0.e _ _ hal7)⟩, ?_⟩
  refine for_it (walk_list (K := K) (a := al) (xs := xs)) (fun i σ2 H2 => ∃ G2 s4 s7, σ2 = [some (.int n), some (.ref a), some (.ref al), some (.ref t), s4, some (.ref t2), some (.ref pf), s7, none] ∧ LK T.C a dd pf G7 H6 G2 H2 (((orders.take i).foldl (fun found one => addNew found (hearthOf orders led one)) []).map dOs)) ⟨G7, _, _, rfl, N0⟩
    (fun i σ' H' _ ⟨G', s4, s7, hσ, L⟩ => SqL.of (L.e _ _ (L.x.g _ _ hal7))) (fun i x σ' H' H'' hi ⟨G', s4, s7, hσ, L⟩ y => ?_) fun σ8 H8 ⟨G8, s4, s7, hσ, L8⟩ => ?_
  · subst hσ
    obtain ⟨rfl, hx⟩ := y
    obtain ⟨one, hx0, rx⟩ := ral7.ofVX hx
    have rx' := rx.mono L.x.g
    obtain ⟨⟨⟨c1, c2⟩, c3⟩, c4⟩ := ok2 one (List.mem_of_getElem? hx0)
    have gt : G' t2 = some (.dT kl) := L.x.g _ _ ht7
    have ti' := ti7.mono L.x.g
    have ral' := ral7.mono L.x.g
    have hal' := L.x.g _ _ hal7
    obtain ⟨l1, hl1⟩ := Option.isSome_iff_exists.mp c4
    obtain ⟨vl1, hv1, rl1⟩ := ti_get (F := fun v l => Rp G' v (dOs l)) ti' hl1
    -- the hearth
    refine ⟨_, rfl, al, rfl, ⟨xs, SqL.of (L.e _ _ hal')⟩, fun D hD => ?_⟩
    have B0 := LL.start (vs := []) (ds := []) L.e hD .nil
    have hlen2 : ∀ l : List Od, (l.filter fun other => inO other l1 && inO one ((getK led other).getD [])).length ≤ l.length := fun l => List.length_filter_le _ _
    refine lc_it (walk_list (K := K) (a := al) (xs := xs)) (fun j Hj => ∃ Gj, LL D G' H'' Gj Hj (((orders.take j).filter fun other => inO other l1 && inO one ((getK led other).getD [])).map dO)) ⟨G', B0⟩
      (fun j Hj _ ⟨Gj, B⟩ => SqL.of (B.x.gh _ _ (B.x.g _ _ hal'))) (fun j y2 Hj Hj' hj ⟨Gj, B⟩ yy => ?_) fun Hj ⟨Gj, B⟩ => ?_
    · obtain ⟨rfl, hy⟩ := yy
      obtain ⟨other, hy0, ry⟩ := ral'.ofVX hy
      obtain ⟨⟨⟨b1, b2⟩, b3⟩, b4⟩ := ok2 other (List.mem_of_getElem? hy0)
      obtain ⟨l2, hl2⟩ := Option.isSome_iff_exists.mp b4
      obtain ⟨vl2, hv2, rl2⟩ := ti_get (F := fun v l => Rp G' v (dOs l)) ti' hl2
      have eB := Ex.trans B.x.g B.x.gh
      obtain ⟨bx, rfl, hbx⟩ := rx'.tup_at eB
      obtain ⟨by2, rfl, hby⟩ := ry.tup_at eB
      have tk : ((orders.take (j + 1)).filter fun other => inO other l1 && inO one ((getK led other).getD [])) = ((orders.take j).filter fun other => inO other l1 && inO one ((getK led other).getD [])) ++ (if (inO other l1 && inO one l2) = true then [other] else []) := by
        rw [List.take_add_one, hy0, List.filter_append]
        congr 1
        show List.filter _ [other] = _
        rw [List.filter_cons, hl2]
        rfl
      have hd1 : Rd Hj' t2 (.dT kl) := Rd.ex eB (Or.inl gt)
      refine ⟨rfl, ?_⟩
      refine ⟨_, rfl, _, rfl, _, rfl, t2, vl1, rfl, Or.inr ⟨kl, ko one, bx, hd1, rfl, hbx, hv1.symm⟩, dO other, l1.map dO, (ry.mono eB).dp, (rl1.mono eB).dp, encO.shaped (by decide) other, encOs.shaped (by decide) l1, _, rfl, ?_⟩
      rw [any_enc encO l1 other]
      show (if inO other l1 = true then _ else _)
      cases hi1 : inO other l1 with
      | false =>
        rw [hi1, Bool.false_and, if_neg Bool.false_ne_true, List.append_nil] at tk
        exact iteF (iteF ⟨Gj, by rw [tk]; exact B⟩)
      | true =>
        rw [hi1, Bool.true_and] at tk
        refine iteT ⟨_, rfl, _, rfl, _, rfl, t2, vl2, rfl, Or.inr ⟨kl, ko other, by2, hd1, rfl, hby, hv2.symm⟩, dO one, l2.map dO, (rx'.mono eB).dp, (rl2.mono eB).dp, encO.shaped (by decide) one, encOs.shaped (by decide) l2, _, rfl, ?_⟩
        rw [any_enc encO l2 one]
        show (if inO one l2 = true then _ else _)
        cases hi2 : inO one l2 with
        | false =>
          rw [hi2, if_neg Bool.false_ne_true, List.append_nil] at tk
          exact iteF ⟨Gj, by rw [tk]; exact B⟩
        | true =>
          rw [hi2, if_pos rfl] at tk
          refine iteT ⟨_, rfl, ?_⟩
          obtain ⟨ws, w1, w2, w3⟩ := B.extd (ws := [V.ref by2]) (es := [dO other]) (.one (ry.mono B.x.g))
          refine ⟨ws, w1, ?_, Gj, ?_⟩
          · have z := hlen2 (orders.take j)
            rw [List.length_take] at z
            rw [w2, List.length_map]
            exact sz_lt (by omega)
          · rw [tk, List.map_append]
            exact w3
    · rw [hxl, List.take_length] at B
      obtain ⟨Gh, eh, xh, rh⟩ := B.fin
      have Lh := L.ext xh
      have eho : hearthOf orders led one = orders.filter fun other => inO other l1 && inO one ((getK led other).getD []) := by
        unfold hearthOf
        rw [hl1]
        rfl
      rw [← eho] at rh
      obtain ⟨fs, hfs, rfs⟩ := Lh.l
      have rp : Rp Hj (.ref pf) (dOss ((orders.take i).foldl (fun found one => addNew found (hearthOf orders led one)) [])) := .lst hfs (rfs.mono Lh.e)
      rw [foldl_take (fun found one => addNew found (hearthOf orders led one)) hx0]
      have hfl : ((orders.take i).foldl (fun found one => addNew found (hearthOf orders led one)) []).length ≤ ([] : List (List Od)).length + (orders.take i).length := rightsG_len orders led (orders.take i) []
      have hz : ([] : List (List Od)).length = 0 := rfl
      generalize (orders.take i).foldl (fun found one => addNew found (hearthOf orders led one)) [] = fd at Lh rp hfl
      generalize hearthOf orders led one = hh at rh
      refine ⟨_, rfl, _, rfl, dOs hh, fd.map dOs, (rh.mono Lh.e).dp, rp.dp, encOs.shaped (by decide) hh, encOss.shaped (by decide) fd, _, rfl, ?_⟩
      rw [any_enc encOs fd hh]
      unfold addNew
      cases hin : fd.any fun z => decide (z = hh) with
      | true => exact iteF ⟨Gh, _, _, rfl, by rw [if_pos rfl]; exact Lh⟩
      | false =>
        obtain ⟨ws, w1, w2, w3⟩ := Lh.app (by rw [List.length_map]; rw [List.length_take] at hfl; omega) rh
        refine iteT ⟨_, rfl, Or.inl ⟨rfl, ws, SqL.of w1⟩, _, rfl, pf, _, _, rfl, rfl, w1, w2, Gh, _, _, rfl, ?_⟩
        rw [if_neg Bool.false_ne_true, List.map_append]
        exact w3
  · subst hσ
    rw [hxl, List.take_length] at L8
    obtain ⟨G9, e9, x9, k9, r9⟩ := L8.fin
    have X := x57.trans x9
    refine ⟨_, rfl, q _ G9 H8 ⟨fun b ob hb => ?_, Ex.trans x13.g X.g, X.gh, fun b g hb => X.fr b (x13.fr b g hb) (Ex.ne x13.h hb)⟩ r9⟩
    exact X.h b ob (x13.h b ob hb) fun z => ne_none (x1.h b ob hb) (by rw [z]; exact hdd)
end
end U
namespace U
open PySem L2 Evl
/-! ### the hearths, told -/
def rightsT : Nat → List (List Od)
  | 1 => [[[1]]]
  | 2 => [[[1, 2]], [[2, 1]]]
  | 3 => [[[1, 2, 3]], [[1, 3, 2], [3, 1, 2]], [[2, 1, 3], [2, 3, 1]], [[3, 2, 1]]]
  | 4 => [[[1, 2, 3, 4]], [[1, 2, 4, 3], [1, 4, 2, 3], [4, 1, 2, 3]], [[1, 3, 2, 4], [1, 3, 4, 2], [3, 1, 2, 4]],
    [[1, 4, 3, 2], [4, 1, 3, 2], [4, 3, 1, 2]], [[2, 1, 3, 4], [2, 3, 1, 4], [2, 3, 4, 1]], [[2, 1, 4, 3], [2, 4, 1, 3]],
    [[2, 4, 3, 1], [4, 2, 1, 3], [4, 2, 3, 1]], [[3, 1, 4, 2], [3, 4, 1, 2]], [[3, 2, 1, 4], [3, 2, 4, 1], [3, 4, 2, 1]],
    [[4, 3, 2, 1]]]
  | _ => []
theorem rights_eq : ∀ n, n < 5 → 1 ≤ n → rightsN n = rightsT n := by decide +kernel
def leftH (h : List Od) : List Od := isort ltO (h.map backM)
def leftsN (n : Nat) : List (List Od) := isort ltH ((rightsT n).map leftH)
def leftOk (n : Nat) : Bool := decide ((rightsT n).length ≤ 100) && ((rightsT n).all fun h => decide (h.length ≤ 100) && (h.all fun o => backOk o && decide (backM o ≠ [])) && sortOk ltO (h.map backM)) && sortOk ltH ((rightsT n).map leftH)
theorem left_ok : ∀ n, n < 5 → 1 ≤ n → leftOk n = true := by decide +kernel
def innerF (hearth : List Od) (s : List Od × List (List Od)) (other : List Od) : List Od × List (List Od) :=
  if (other.any fun o => inO o hearth) = true then (s.1 ++ other.filter (fun o => !inO o s.1), s.2) else (s.1, s.2 ++ [other])
def bothF (found : List (List Od)) (hearth : List Od) : List (List Od) := let s := found.foldl (innerF hearth) (hearth, []); s.2 ++ [s.1]
def bothU (n : Nat) : List (List Od) := (rightsT n ++ leftsN n).foldl bothF []
def bothN (n : Nat) : List (List Od) := isort ltH ((bothU n).map (isort ltO))
def innerC (s : List Od × List (List Od)) (other : List Od) : Bool := decide (s.1.length ≤ 100) && decide (s.2.length ≤ 100) && decide (other.length ≤ 100)
def bothC (found : List (List Od)) (hearth : List Od) : Bool := decide (found.length ≤ 100) && fOk (innerF hearth) innerC (hearth, []) found && decide ((found.foldl (innerF hearth) (hearth, [])).2.length ≤ 100)
def bothOk (n : Nat) : Bool := decide ((rightsT n).length ≤ 100) && decide ((leftsN n).length ≤ 100) && fOk bothF bothC [] (rightsT n ++ leftsN n) && decide ((bothU n).length ≤ 100) && ((bothU n).all fun h => (h.all fun o => decide (o ≠ [])) && sortOk ltO h) && sortOk ltH ((bothU n).map (isort ltO))
theorem both_ok : ∀ n, n < 5 → 1 ≤ n → bothOk n = true := by decide +kernel
theorem dep_O (x : Od) : (dO x).depth ≤ 8 := Nat.le_trans (encO.dep x) (by decide)
theorem dep_Os (x : List Od) : (dOs x).depth ≤ 8 := Nat.le_trans (encOs.dep x) (by decide)
section
variable {P : Program} {w : World} {K : PySem.W.Frag} {mg : Str → Option Value} {base : Heap}
abbrev RLefts := RF (fun n : Nat => [dI n]) (fun n => 1 ≤ n ∧ n ≤ 4) fun n => dOss (leftsN n)
theorem ok_left_hearths (T : Txt K mg) : FnOk P w K mg base CX0 24 T.left_hearths.f T.left_hearths.fd ["n"] (PSp RLefts) := by
  refine T.left_hearths.F.ok sc_left_hearths (fun vs H Q E h => psp_len (rf_len fun _ => rfl) h) (fun cdv A outer s H vs Q E hr h => ?_)
  refine ⟨_, (pss_one (ps_ret (pe_callB (cr_sortedD (K := K) rfl (hu64 hr)) (by rfl) T.sorted (by decide +kernel) (pa_cons (pe_lc (own := [("hearth", 1)]) (g := gName 1) (tt := tYes) rfl sc_left_hearths.nd (kpi_list (K := K) rfl (pe_dn T.right_hearths (ok_right_hearths T) hr (by decide) (pa_cons (pv 0) pa_nil))) (blkOk_by (N := ["n", "hearth", "one"]) (sc := defScope s_left_hearths) (by decide +kernel)) (fun _ _ _ _ _ => (pg_name (i := 1) sc_left_hearths.nd rfl (by first | exact Or.inl rfl | exact Or.inr rfl))) (fun _ _ _ _ _ => pts_nil) (fun _ _ _ _ _ => (pe_callB (cr_sortedD (K := K) rfl (hu64 hr)) (by rfl) T.sorted (by decide +kernel) (pa_cons (pe_lc (own := [("one", 2)]) (g := gName 2) (tt := tYes) rfl sc_left_hearths.nd (kpi_list (K := K) rfl (pv 1)) (blkOk_by (N := ["n", "hearth", "one"]) (sc := relS _ (defScope s_left_hearths)) (by decide +kernel)) (fun _ _ _ _ _ => (pg_name (i := 2) sc_left_hearths.nd rfl (by first | exact Or.inl rfl | exact Or.inr rfl))) (fun _ _ _ _ _ => pts_nil) (fun _ _ _ _ _ => (pe_dn T.back (ok_back T) hr (by decide) (pa_cons (pv 2) pa_nil)))) pa_nil)))) pa_nil)))), ?_⟩
  refine rd_does 2 1 h rfl (rf_len fun _ => rfl) fun G0 H0 ds d hR => ?_
  obtain ⟨n, rfl, ⟨h1, h4⟩, rfl⟩ := hR
  have h1 : 1 ≤ n := h1
  have h4 : n ≤ 4 := h4
  have ok := left_ok n (by omega) h1
  unfold leftOk at ok
  simp only [Bool.and_eq_true, decide_eq_true_eq, List.all_eq_true] at ok
  obtain ⟨⟨o1, o2⟩, o3⟩ := ok
  refine does_ret (nl_sorted (f := dOs) (xs := (rightsT n).map leftH) ltH_eq alH (soH _) dep_Os ((nl_mapX (fe := dOs) (xs := rightsT n) ((dv_call (av_cons (dv_var rfl) av_nil) ⟨n, rfl, ⟨h1, h4⟩, rfl⟩).is (congrArg dOss (rights_eq n (by omega) h1))) (fun h => dOs (leftH h)) (by omega) fun h hh => ?_).is (by rw [List.map_map]; rfl)).dv o3).dv
  obtain ⟨⟨a1, a2⟩, a3⟩ := o2 h hh
  refine (nl_sorted (f := dO) (xs := h.map backM) ltO_eq alO (soO fun x hx => ?_) dep_O ((nl_mapX (fe := dO) (xs := h) (dv_var rfl) (fun o => dO (backM o)) (by omega) fun o ho => dv_call (av_cons (dv_var rfl) av_nil) ⟨o, rfl, (a2 o ho).1, rfl⟩).is (by rw [List.map_map]; rfl)).dv a3).dv
  obtain ⟨o, ho, rfl⟩ := List.mem_map.mp hx
  exact (a2 o ho).2
abbrev RBoth := RF (fun n : Nat => [dI n]) (fun n => 1 ≤ n ∧ n ≤ 4) fun n => dOss (bothN n)
theorem ok_both_hearths (T : Txt K mg) : FnOk P w K mg base CX0 25 T.both_hearths.f T.both_hearths.fd ["n"] (PSp RBoth) := by
  refine T.both_hearths.F.ok sc_both_hearths (fun vs H Q E h => psp_len (rf_len fun _ => rfl) h) (fun cdv A outer s H vs Q E hr h => ?_)
  refine ⟨_, (pss_cons (ps_set (i := 1) sc_both_hearths.nd rfl (Or.inl rfl) (pe_lst pa_nil))
      (pss_cons (ps_for PassesOwn.never rfl (kpi_list (K := K) rfl (pe_op op_cat (pe_dn T.right_hearths (ok_right_hearths T) hr (by decide) (pa_cons (pv 0) pa_nil)) (pe_dn T.left_hearths (ok_left_hearths T) hr (by decide) (pa_cons (pv 0) pa_nil)))) (pg_name (i := 2) sc_both_hearths.nd rfl (Or.inr rfl))
        (pss_cons (ps_set (i := 3) sc_both_hearths.nd rfl (Or.inr rfl) (pv 2))
        (pss_cons (ps_set (i := 4) sc_both_hearths.nd rfl (Or.inl rfl) (pe_lst pa_nil))
        (pss_cons (ps_for PassesOwn.never rfl (kpi_list (K := K) rfl (pv 1)) (pg_name (i := 5) sc_both_hearths.nd rfl (Or.inl rfl))
          (pss_one (ps_if (pt_val (pe_callB (k_any (K := K) rfl rfl) (by rfl) T.any (by decide +kernel) (pa_cons (pe_lc (own := [("one", 6)]) (g := gName 6) (tt := tYes) rfl sc_both_hearths.nd (kpi_list (K := K) rfl (pv 5)) (blkOk_by (N := ["n", "found", "hearth", "whole", "rest", "other", "one"]) (sc := defScope s_both_hearths) (by decide +kernel)) (fun _ _ _ _ _ => (pg_name (i := 6) sc_both_hearths.nd rfl (by first | exact Or.inl rfl | exact Or.inr rfl))) (fun _ _ _ _ _ => pts_nil) (fun _ _ _ _ _ => (pe_cmpR (k_inD (K := K) rfl (hu65 hr)) (pv 6) (pv 2) (by rfl)))) pa_nil)))
            (pss_one (ps_set (i := 3) sc_both_hearths.nd rfl (Or.inr rfl) (pe_op op_cat (pv 3) (pe_lc (own := [("one", 6)]) (g := gName 6) rfl sc_both_hearths.nd (kpi_list (K := K) rfl (pv 5)) (blkOk_by (N := ["n", "found", "hearth", "whole", "rest", "other", "one"]) (sc := defScope s_both_hearths) (by decide +kernel)) (fun _ _ _ _ _ => (pg_name (i := 6) sc_both_hearths.nd rfl (by first | exact Or.inl rfl | exact Or.inr rfl))) (fun _ _ _ _ _ => (pts_one (pt_cmpR (k_niD (K := K) rfl (hu65 hr)) (pv 6) (pv 3) (by rfl)))) (fun _ _ _ _ _ => (pv 6))))))
            (pss_one (ps_expr (pe_bm PySem.F.plainAttrs_list PySem.F.slot_list_append PySem.F.type_list_append mt_append (pv 4) (pa_cons (pv 5) pa_nil)))))))
        (pss_one (ps_set (i := 1) sc_both_hearths.nd rfl (Or.inl rfl) (pe_op op_cat (pv 4) (pe_lst (pa_cons (pv 3) pa_nil)))))))))
      (pss_one (ps_ret (pe_callB (cr_sortedD (K := K) rfl (hu64 hr)) (by rfl) T.sorted (by decide +kernel) (pa_cons (pe_lc (own := [("hearth", 2)]) (g := gName 2) (tt := tYes) rfl sc_both_hearths.nd (kpi_list (K := K) rfl (pv 1)) (blkOk_by (N := ["n", "found", "hearth", "whole", "rest", "other", "one"]) (sc := defScope s_both_hearths) (by decide +kernel)) (fun _ _ _ _ _ => (pg_name (i := 2) sc_both_hearths.nd rfl (by first | exact Or.inl rfl | exact Or.inr rfl))) (fun _ _ _ _ _ => pts_nil) (fun _ _ _ _ _ => (pe_callB (cr_sortedD (K := K) rfl (hu64 hr)) (by rfl) T.sorted (by decide +kernel) (pa_cons (pv 2) pa_nil)))) pa_nil)))))), ?_⟩
  refine rd_does 6 1 h rfl (rf_len fun _ => rfl) fun G0 H0 ds d hR => ?_
  obtain ⟨n, rfl, ⟨h1, h4⟩, rfl⟩ := hR
  have h1 : 1 ≤ n := h1
  have h4 : n ≤ 4 := h4
  have ok := both_ok n (by omega) h1
  unfold bothOk at ok
  simp only [Bool.and_eq_true, decide_eq_true_eq, List.all_eq_true] at ok
  obtain ⟨⟨⟨⟨⟨o1, o2⟩, o3⟩, o4⟩, o5⟩, o6⟩ := ok
  refine does_seq (does_asg (nl_lst av_nil (Nat.zero_le _)).dv) ?_
  refine does_seq (does_for (ds := (rightsT n ++ leftsN n).map dOs) ((nl_cat ((dv_call (R := RRights) (av_cons (dv_var rfl) av_nil) ⟨n, rfl, ⟨h1, h4⟩, rfl⟩).is (congrArg dOss (rights_eq n (by omega) h1))) (dv_call (R := RLefts) (av_cons (dv_var rfl) av_nil) ⟨n, rfl, ⟨h1, h4⟩, rfl⟩) ?_).is (by rw [List.map_append])).dv
    (fun i => [.imm (dI n), .imm (dOss (((rightsT n ++ leftsN n).take i).foldl bothF [])), .any, .any, .any, .any, .any]) rfl fun i d hd => ?_) ?_
  · rw [List.length_map, List.length_map]
    omega
  · obtain ⟨hearth, hh, rfl⟩ := at_map hd
    have hc := fOk_at o3 hh
    rw [foldl_take bothF hh]
    unfold bothC at hc
    simp only [Bool.and_eq_true, decide_eq_true_eq] at hc
    obtain ⟨⟨c1, c2⟩, c3⟩ := hc
    generalize ((rightsT n ++ leftsN n).take i).foldl bothF [] = found at c1 c2 c3 ⊢
    refine does_seq (does_asg (dv_var rfl)) ?_
    refine does_seq (does_own (nl_lst av_nil (Nat.zero_le _))) ?_
    refine does_seq (does_for (ds := found.map dOs) (dv_var rfl) (fun j => [.imm (dI n), .imm (dOss found), .imm (dOs hearth), .imm (dOs ((found.take j).foldl (innerF hearth) (hearth, [])).1), .own (((found.take j).foldl (innerF hearth) (hearth, [])).2.map dOs), .any, .any]) rfl fun j d hd => ?_) ?_
    · obtain ⟨other, ho, rfl⟩ := at_map hd
      have hi := fOk_at c2 ho
      rw [foldl_take (innerF hearth) ho]
      unfold innerC at hi
      simp only [Bool.and_eq_true, decide_eq_true_eq] at hi
      obtain ⟨⟨i1, i2⟩, i3⟩ := hi
      generalize (found.take j).foldl (innerF hearth) (hearth, []) = st at i1 i2 ⊢
      obtain ⟨whole, rest⟩ := st
      refine does_if (b := other.any fun o => inO o hearth) (tv_val ((dv_any (bs := other.map fun o => inO o hearth) ((nl_mapX (fe := dO) (xs := other) (dv_var rfl) (fun o => .bool (inO o hearth)) (by omega) fun o ho => ?_).r.is (by rw [List.map_map]; rfl))).r.is (by rw [List.any_map]; rfl))) (fun hb => ?_) fun hb => ?_
      · refine (dv_inD (ds := hearth.map dO) (dv_var rfl).r (dv_var rfl).r (encO.shaped (by decide) o) (encOs.shaped (by decide) hearth)).is ?_
        rw [any_enc encO]
        rfl
      · unfold innerF
        rw [if_pos hb]
        refine does_wk (does_asg (NL.is (es := List.map dO (whole ++ other.filter fun o => !inO o whole)) (nl_cat (dv_var rfl) (nl_filX (fe := dO) (xs := other) (dv_var rfl) (fun o => !inO o whole) (by omega) (by show 6 < 7; decide) fun o ho => ?_).dv ?_) ?_).dv) ?_
        · refine tv_cmp ((dv_niD (ds := whole.map dO) (dv_var rfl).r (dv_var rfl).r (encO.shaped (by decide) o) (encOs.shaped (by decide) whole)).r.is ?_)
          rw [any_enc encO]
          rfl
        · have z : (other.filter fun o => !inO o whole).length ≤ other.length := List.length_filter_le _ _
          have i1 : whole.length ≤ 100 := i1
          rw [List.length_map, List.length_map]
          show whole.length + (other.filter fun o => !inO o whole).length ≤ 100000
          omega
        · rw [List.map_append]
        · exact .keep (.keep (.keep (.keep (.keep (.drop (.keep .nil))))))
      · unfold innerF
        rw [hb, if_neg Bool.false_ne_true]
        have i2 : rest.length ≤ 100 := i2
        refine does_wk (does_app rfl (dv_var rfl) (by rw [List.length_map]; omega)) ?_
        rw [List.map_append]
        exact .keep (.keep (.keep (.keep (.keep (.drop (.keep .nil))))))
    · rw [List.length_map, List.take_length]
      unfold bothF
      generalize found.foldl (innerF hearth) (hearth, []) = st at c3 ⊢
      obtain ⟨whole, rest⟩ := st
      refine does_still 4 rfl ?_
      have c3 : rest.length ≤ 100 := c3
      refine does_wk (does_asg (NL.is (es := List.map dOs (rest ++ [whole])) (nl_cat (dv_var rfl) (nl_lst (av_cons (dv_var rfl) av_nil) (by show 1 ≤ 100000; decide)).dv ?_) ?_).dv) ?_
      · rw [List.length_map]
        show _ + 1 ≤ 100000
        omega
      · rw [List.map_append]
        rfl
      · exact .keep (.keep (.drop (.drop (.drop (.drop (.keep .nil))))))
  · rw [List.length_map, List.take_length]
    refine does_ret (nl_sorted (f := dOs) (xs := (bothU n).map (isort ltO)) ltH_eq alH (soH _) dep_Os ((nl_mapX (fe := dOs) (xs := bothU n) (dv_var rfl) (fun h => dOs (isort ltO h)) (by omega) fun h hh => ?_).is (by rw [List.map_map]; rfl)).dv o6).dv
    obtain ⟨a1, a2⟩ := o5 h hh
    exact (nl_sorted (f := dO) (xs := h) ltO_eq alO (soO fun x hx => a1 x hx) dep_O (dv_var rfl) a2).dv
end
end U
namespace U
open PySem L2 Evl
theorem kpe_bx {X : Cx} {K : PySem.W.Frag} {T name : String} {r : V → List V → Hp → VK → Prop} {o e : Expr} {es : List Expr} {to : TE} {t : TA} {apos cpos : Pos} (h : X.K = K) (pe : PE X (.Call (.Attribute o (Str.ofString name) apos) (e :: es) [] cpos) (tBM X.K T r to t)) : PE X (.Call (.Attribute o (Str.ofString name) apos) (e :: es) [] cpos) (tBM K T r to t) := by subst h; exact pe
/-! ### the bag: a list of two numbers -/
structure BG (p : Addr) (Gs Hs G H : Hp) : Prop where
  x : Ext Gs Hs G H
  l : ∃ a b : Int, H p = some (.lst [.int a, .int b])
  gp : G p = none
  hp : Hs p = none
theorem BG.ext {p : Addr} {Gs Hs G H G' H' : Hp} (B : BG p Gs Hs G H) (x : Ext G H G' H') : BG p Gs Hs G' H' := by
  obtain ⟨a, b, h⟩ := B.l
  exact ⟨B.x.trans x, ⟨a, b, x.h _ _ h⟩, x.fr p B.gp (ne_none h), B.hp⟩
theorem BG.set {p : Addr} {Gs Hs G H : Hp} (B : BG p Gs Hs G H) (a b : Int) : BG p Gs Hs G (upd H p (.lst [.int a, .int b])) := ⟨B.x.own B.hp B.gp, ⟨a, b, upd_same⟩, B.gp, B.hp⟩
def leftOf (n : Nat) (fd : Od) : Od := (plain n).filter fun t => !(fd.any fun y => decide (y = t))
def ordOk (n : Nat) : Bool := (List.range n).all fun k => (allF n k).all fun fd => decide ((leftOf n fd).length = n - k) && (List.range (n - k)).all fun d =>
  decide (fd ++ [(leftOf n fd).getD d 0] ∈ allF n (k + 1)) && decide ((leftOf n fd).eraseIdx d = leftOf n (fd ++ [(leftOf n fd).getD d 0]))
theorem ord_ok : ∀ n, n < 5 → ordOk n = true := by decide +kernel
def spBag : Sp := fun vs H Q _ => ∃ (c : Int) (pl : Int), vs = [.int c, .int pl] ∧ (-(2 ^ 64) < pl ∧ pl < 2 ^ 64) ∧ ∀ p a b, H p = none → Q (.ref p) (upd H p (.lst [.int a, .int b]))
def spMixed : Sp := fun vs H Q _ => ∃ (p : Addr) (a b : Int), vs = [.ref p] ∧ H p = some (.lst [.int a, .int b]) ∧ ∀ r b', Q (.int r) (upd H p (.lst [.int a, .int b']))
def spDigit : Sp := fun vs H Q _ => ∃ (p : Addr) (a b m : Int), vs = [.ref p, .int m] ∧ H p = some (.lst [.int a, .int b]) ∧ (0 < m ∧ m ≤ 1000) ∧ ∀ d a' b', 0 ≤ d → d < m → Q (.int d) (upd H p (.lst [.int a', .int b']))
def spOrder : Sp := fun vs H Q _ => ∃ (p : Addr) (n : Nat) (Gs Hs G : Hp), vs = [.ref p, .int (n : Nat)] ∧ BG p Gs Hs G H ∧ (1 ≤ n ∧ n ≤ 4) ∧ ∀ v o G' H', o ∈ allO n → Ex G G' → BG p Gs Hs G' H' → Rp G' v (dO o) → Q v H'
theorem map_erase {α β : Type} (f : α → β) : ∀ (l : List α) (i : Nat), (l.map f).eraseIdx i = (l.eraseIdx i).map f
  | [], _ => rfl
  | _ :: _, 0 => rfl
  | a :: l, i + 1 => by
    show f a :: (l.map f).eraseIdx i = f a :: (l.eraseIdx i).map f
    rw [map_erase f l i]
theorem upd_upd {H : Hp} {p : Addr} {o1 o2 : HO} : upd (upd H p o1) p o2 = upd H p o2 := by
  funext b
  by_cases z : b = p
  · rw [z, upd_same, upd_same]
  · rw [upd_ne z, upd_ne z, upd_ne z]
section
variable {P : Program} {w : World} {K : PySem.W.Frag} {mg : Str → Option Value} {base : Heap}
def spCell (K : PySem.W.Frag) : Sp := fun vs H Q _ => ∃ (a : Addr) (ns : List Int) (k : Nat), vs = [.ref a, .int (k : Nat)] ∧ SqL K H a (ns.map V.int) ∧ Q (.int (ns.getD k 0)) H
theorem sql_ex {K : PySem.W.Frag} {H H' : Hp} {a : Addr} {xs : List V} (e : Ex H H') (h : SqL K H a xs) : SqL K H' a xs := h.elim (fun z => Or.inl (ex_rd e z)) Or.inr
theorem ok_law_cell (T : Txt K mg) : FnOk P w K mg base CX0 1 T.law_cell.f T.law_cell.fd ["_law_script", "_law_k"] (spCell K) := by
  refine T.law_cell.F.ok sc_law_cell (fun vs H Q E h => ?_) (fun cdv A outer s H vs Q E hr h => ?_)
  · obtain ⟨a, ns, k, rfl, _⟩ := h
    rfl
  refine ⟨_, (pss_cons (ps_if (pt_cmpR op_lt (pv 1) (pe_callB (k_len (K := K) rfl) (by rfl) T.len (by decide +kernel) (pa_cons (pv 0) pa_nil)) (nomark _))
        (pss_one (ps_ret (pe_ix (k_ixL (K := K) rfl) (pv 0) (pv 1) (fun _ _ => rfl))))
        pss_nil)
      (pss_one (ps_ret pe_int))), ?_⟩
  obtain ⟨a, ns, k, rfl, hs, q⟩ := h
  refine ⟨_, rfl, _, rfl, a, _, rfl, Or.inl hs, (k : Nat), ((ns.map V.int).length : Nat), rfl, rfl, _, rfl, ?_⟩
  rw [List.length_map]
  by_cases hk : k < ns.length
  · refine iteT' (decide_eq_true (by omega)) ⟨_, rfl, _, rfl, a, _, (k : Nat), .int (ns.getD k 0), rfl, rfl, hs, atI_nat ?_, q⟩
    rw [List.getElem?_map, List.getElem?_eq_getElem hk, getD_some (List.getElem?_eq_getElem hk)]
    rfl
  · refine iteF' (decide_eq_false (by omega)) ?_
    rw [List.getD_eq_getElem?_getD, List.getElem?_eq_none (by omega)] at q
    exact q
theorem ok_law_bag (T : Txt K mg) : FnOk P w K mg base CX0 1 T.law_bag.f T.law_bag.fd ["_law_cell_here", "_law_place"] spBag := by
  refine T.law_bag.F.ok sc_law_bag (fun vs H Q E h => ?_) (fun cdv A outer s H vs Q E hr h => ?_)
  · obtain ⟨c, pl, rfl, _⟩ := h
    rfl
  refine ⟨_, (pss_cons (ps_set (i := 2) sc_law_bag.nd rfl (Or.inl rfl) (pe_callB call_abs (by rfl) T.abs (by decide +kernel) (pa_cons (pv 0) pa_nil)))
      (pss_cons (ps_if (pt_cmpR op_lt (pv 2) (pe_op op_pow pe_int pe_int) (nomark _))
        (pss_one (ps_set (i := 2) sc_law_bag.nd rfl (Or.inl rfl) pe_int))
        pss_nil)
      (pss_one (ps_ret (pe_lst (pa_cons (pv 2) (pa_cons (pe_op op_modN (pe_op op_add (pe_op op_add (pe_op op_mul (pe_op op_modN (pv 0) pe_int) pe_int) (pe_op op_mul pe_int (pv 1))) pe_int) pe_int) pa_nil))))))), ?_⟩
  obtain ⟨c, pl, rfl, hpl, k⟩ := h
  have rest : ∀ (D : Ends) (far : Int), (∀ p a b, H p = none → D.rt (.ref p) (upd H p (.lst [.int a, .int b]))) → (tRet
        (tLst
          (tCons (tVar 2)
            (tCons
              (tOp (rI (fun x j => j ≠ 0) fun i j => V.int (i.fmod j))
                (tOp (rI0 fun i j => V.int (i + j))
                  (tOp (rI0 fun i j => V.int (i + j))
                    (tOp (rI CMul fun i j => V.int (i * j))
                      (tOp (rI (fun x j => j ≠ 0) fun i j => V.int (i.fmod j)) (tVar 0) (tC (V.int 2147483647)))
                      (tC (V.int 69621)))
                    (tOp (rI CMul fun i j => V.int (i * j)) (tC (V.int 7919)) (tVar 1)))
                  (tC (V.int 13)))
                (tC (V.int 2147483647)))
              tNil)))) D [some (.int c), some (.int pl), some (.int far)] H := fun D far hD => by
    refine ⟨_, rfl, _, rfl, c, 2147483647, rfl, rfl, (show (2147483647 : Int) ≠ 0 by decide), _, 69621, rfl, rfl, Or.inr ⟨by decide, by decide⟩, _, rfl, 7919, pl, rfl, rfl, Or.inr hpl, _, _, rfl, rfl, _, 13, rfl, rfl, _, 2147483647, rfl, rfl, (show (2147483647 : Int) ≠ 0 by decide), by show 2 ≤ sizeLine; decide, fun p hp => hD p _ _ hp⟩
  refine ⟨_, rfl, c, rfl, _, rfl, 10, 18, rfl, rfl, ⟨by decide, by decide, by decide⟩, _, _, rfl, rfl, _, rfl, ?_⟩
  cases decide ((if c < 0 then -c else c) < 10 ^ (18 : Int).toNat) with
  | true => exact iteT (rest _ 0 k)
  | false => exact iteF (rest _ _ k)
theorem ok_law_mixed (T : Txt K mg) : FnOk P w K mg base CX0 1 T.law_mixed.f T.law_mixed.fd ["_law_bag_here"] spMixed := by
  refine T.law_mixed.F.ok sc_law_mixed (fun vs H Q E h => ?_) (fun cdv A outer s H vs Q E hr h => ?_)
  · obtain ⟨p, a, b, rfl, _⟩ := h
    rfl
  refine ⟨_, (pss_cons (ps_asg (pe_op op_modN (pe_op op_add (pe_op op_mul (pe_ix (k_ixL (K := K) rfl) (pv 0) pe_int (fun _ _ => rfl)) pe_int) pe_int) pe_int) (pg_sub (pv 0) pe_int set_list))
      (pss_one (ps_ret (pe_op op_fdivN (pe_op op_modN (pe_op op_mul (pe_ix (k_ixL (K := K) rfl) (pv 0) pe_int (fun _ _ => rfl)) pe_int) pe_int) pe_int)))), ?_⟩
  obtain ⟨p, a, b, rfl, hp, k⟩ := h
  refine ⟨_, rfl, p, _, 1, _, rfl, rfl, SqL.of hp, atI_nat (j := 1) rfl, b, 48271, rfl, rfl, Or.inr ⟨by decide, by decide⟩, _, 11, rfl, rfl, _, 2147483647, rfl, rfl, (show (2147483647 : Int) ≠ 0 by decide), _, rfl, p, _, 1, 1, rfl, rfl, hp, rfl, ?_⟩
  exact ⟨_, rfl, p, _, 1, _, rfl, rfl, SqL.of upd_same, atI_nat (j := 1) rfl, _, 16807, rfl, rfl, Or.inr ⟨by decide, by decide⟩, _, 2147483629, rfl, rfl, (show (2147483629 : Int) ≠ 0 by decide), _, 8, rfl, rfl, ⟨by decide, by decide⟩, k _ _⟩
theorem ok_law_digit (T : Txt K mg) : FnOk P w K mg base CX0 2 T.law_digit.f T.law_digit.fd ["_law_bag_here", "_law_many"] spDigit := by
  refine T.law_digit.F.ok sc_law_digit (fun vs H Q E h => ?_) (fun cdv A outer s H vs Q E hr h => ?_)
  · obtain ⟨p, a, b, m, rfl, _⟩ := h
    rfl
  refine ⟨_, (pss_cons (ps_if (pt_cmpR op_gt (pe_ix (k_ixL (K := K) rfl) (pv 0) pe_int (fun _ _ => rfl)) pe_int (nomark _))
        (pss_cons (ps_set (i := 2) sc_law_digit.nd rfl (Or.inl rfl) (pe_op op_modN (pe_ix (k_ixL (K := K) rfl) (pv 0) pe_int (fun _ _ => rfl)) (pv 1)))
        (pss_cons (ps_asg (pe_op op_fdivN (pe_ix (k_ixL (K := K) rfl) (pv 0) pe_int (fun _ _ => rfl)) (pv 1)) (pg_sub (pv 0) pe_int set_list))
        (pss_one (ps_ret (pv 2)))))
        pss_nil)
      (pss_cons (ps_set (i := 2) sc_law_digit.nd rfl (Or.inl rfl) (pe_dn T.law_mixed (ok_law_mixed T) hr (by decide) (pa_cons (pv 0) pa_nil)))
      (pss_cons (ps_if (pt_cmpR op_gt (pv 1) pe_int (nomark _))
        (pss_one (ps_for PassesOwn.never rfl (pi_range1 (by rfl) T.range (pa_cons pe_int pa_nil)) (pg_name (i := 3) sc_law_digit.nd rfl (Or.inl rfl))
          (pss_one (ps_set (i := 2) sc_law_digit.nd rfl (Or.inl rfl) (pe_op op_add (pe_op op_mul (pv 2) pe_int) (pe_dn T.law_mixed (ok_law_mixed T) hr (by decide) (pa_cons (pv 0) pa_nil)))))))
        pss_nil)
      (pss_one (ps_ret (pe_op op_modN (pv 2) (pv 1))))))), ?_⟩
  obtain ⟨p, a, b, m, rfl, hp, ⟨hm1, hm2⟩, k⟩ := h
  have f0 : ∀ i : Int, 0 ≤ i.fmod m := fun i => Int.fmod_nonneg_of_pos i hm1
  have f1 : ∀ i : Int, i.fmod m < m := fun i => Int.fmod_lt_of_pos i hm1
  refine ⟨_, rfl, p, _, 0, _, rfl, rfl, SqL.of hp, atI_nat (j := 0) rfl, a, 0, rfl, rfl, _, rfl, ?_⟩
  by_cases ha : 0 < a
  · refine iteT' (decide_eq_true ha) ?_
    refine ⟨_, rfl, p, _, 0, _, rfl, rfl, SqL.of hp, atI_nat (j := 0) rfl, _, rfl, a, m, rfl, rfl, by omega, ?_⟩
    refine ⟨_, rfl, p, _, 0, _, rfl, rfl, SqL.of hp, atI_nat (j := 0) rfl, _, rfl, a, m, rfl, rfl, ⟨by omega, by omega⟩, _, rfl, p, _, 0, 0, rfl, rfl, hp, rfl, ?_⟩
    exact ⟨_, rfl, k _ _ _ (f0 a) (f1 a)⟩
  · refine iteF' (decide_eq_false ha) ?_
    refine ⟨_, rfl, p, a, b, rfl, hp, fun r b' => ?_⟩
    refine ⟨_, rfl, m, 1000, rfl, rfl, _, rfl, iteF' (decide_eq_false (by omega)) ?_⟩
    exact ⟨_, rfl, _, rfl, r, m, rfl, rfl, by omega, k _ _ _ (f0 r) (f1 r)⟩
theorem ok_law_order (T : Txt K mg) : FnOk P w K mg base CX0 3 T.law_order.f T.law_order.fd ["_law_bag_here", "_law_n"] spOrder := by
  refine T.law_order.F.ok sc_law_order (fun vs H Q E h => ?_) (fun cdv A outer s H vs Q E hr h => ?_)
  · obtain ⟨p, n, _, _, _, rfl, _⟩ := h
    rfl
  refine ⟨_, (pss_cons (ps_set (i := 2) sc_law_order.nd rfl (Or.inl rfl) (pe_listRg rfl (by rfl) T.list (prg_2 (by rfl) T.range pe_int (pe_op op_add (pv 1) pe_int))))
      (pss_cons (ps_set (i := 3) sc_law_order.nd rfl (Or.inl rfl) (pe_lst pa_nil))
      (pss_cons (ps_for PassesOwn.never rfl (pi_range1 (by rfl) T.range (pa_cons (pv 1) pa_nil)) (pg_name (i := 4) sc_law_order.nd rfl (Or.inl rfl))
        (pss_one (ps_expr (pe_bm PySem.F.plainAttrs_list PySem.F.slot_list_append PySem.F.type_list_append mt_append (pv 3) (pa_cons (pe_bm PySem.F.plainAttrs_list PySem.F.slot_list_pop PySem.F.type_list_pop mt_popAt (pv 2) (pa_cons (pe_dn T.law_digit (ok_law_digit T) hr (by decide) (pa_cons (pv 0) (pa_cons (pe_callB (k_len (K := K) rfl) (by rfl) T.len (by decide +kernel) (pa_cons (pv 2) pa_nil)) pa_nil))) pa_nil)) pa_nil)))))
      (pss_one (ps_ret (pe_callTy (k_tuple (K := K) rfl) (by rfl) T.tuple (by decide +kernel) (pa_cons (pv 3) pa_nil))))))), ?_⟩
  obtain ⟨p, n, Gs, Hs, G, rfl, B, ⟨hn1, hn4⟩, k⟩ := h
  have e := B.x.gh
  have S0 : Slots H [.any, .imm (dI n), .any, .any, .any] [some (.ref p), some (.int n), none, none, none] G H := (anyS [some (.ref p), some (.int n), none, none, none]).setImm (i := 1) (.int _)
  refine q_nl (nl_listRg dv_int.r (dv_ii (dv_var rfl).r dv_int.r).r (RgOk.of_le (by decide) (by omega) (by decide) (by omega))) e S0 fun pl us G1 H1 x1 hpl gpl hpl1 rus => ?_
  have en : ((n : Int) + 1 - 1).toNat = n := by omega
  rw [en] at rus
  have rus : RpAll G1 us ((plain n).map PyData.int) := by
    unfold plain
    rw [List.map_map]
    exact rus
  obtain rfl := rus.ints
  refine s_seq ⟨by show 0 ≤ sizeLine; decide, fun pf hpf => ?_⟩
  dsimp only [gName]
  have B1 := B.ext x1
  have x2 := Ext.hs x1.gh (Ex.new (o := .lst []) hpf)
  have B2 := B1.ext x2
  have npl : pl ≠ pf := ne_of_none hpl1 hpf
  obtain ⟨a0, b0, hp0⟩ := id B.l
  have nppl : pl ≠ p := fun z => by rw [z, hp0] at hpl; cases hpl
  obtain ⟨a1, b1, hp1⟩ := id B1.l
  have nppf : pf ≠ p := fun z => by rw [z, hp1] at hpf; cases hpf
  have gpf : G1 pf = none := fresh_back x1.gh hpf
  have spl : Hs pl = none := fresh_back B.x.h hpl
  have spf : Hs pf = none := fresh_back B1.x.h hpf
  refine s_seq ⟨_, rfl, (n : Nat), rfl, by omega, by omega, ?_⟩
  have ok := ord_ok n (by omega)
  unfold ordOk at ok
  simp only [List.all_eq_true, List.mem_range, Bool.and_eq_true, decide_eq_true_eq] at ok
  refine for_it (walk_range (lo := 0) (n := n)) (fun i σ' H' => ∃ s4 fd, σ' = [some (.ref p), some (.int n), some (.ref pl), some (.ref pf), s4] ∧ BG p Gs Hs G1 H' ∧ H' pl = some (.lst ((leftOf n fd).map V.int)) ∧ H' pf = some (.lst (fd.map V.int)) ∧ fd ∈ allF n i)
    ⟨none, [], rfl, B2, ?_, upd_same, List.mem_singleton.mpr rfl⟩ (fun _ _ _ _ _ => True.intro) (fun i x σ' H' H'' hi ⟨s4, fd, hσ, Bi, h1, h2, h3⟩ y => ?_) fun σ' H' ⟨s4, fd, hσ, Bi, h1, h2, h3⟩ => ?_
  · rw [upd_ne npl, hpl1]
    have z : leftOf n [] = plain n := List.filter_eq_self.mpr fun _ _ => rfl
    rw [z]
  · subst hσ
    obtain ⟨rfl, rfl⟩ := y
    obtain ⟨c1, c2⟩ := ok i hi fd h3
    obtain ⟨a, b, hpi⟩ := Bi.l
    refine ⟨_, rfl, Or.inl ⟨rfl, _, SqL.of h2⟩, _, rfl, Or.inl ⟨rfl, _, SqL.of h1⟩, _, rfl, _, rfl, pl, _, rfl, Or.inl (SqL.of h1), p, a, b, _, rfl, hpi, ⟨?_, ?_⟩, fun d a' b' hd1 hd2 => ?_⟩
    · rw [List.length_map, c1]
      omega
    · rw [List.length_map, c1]
      omega
    rw [List.length_map, c1] at hd2
    obtain ⟨dn, rfl⟩ : ∃ dn : Nat, d = dn := ⟨d.toNat, by omega⟩
    obtain ⟨c3, c4⟩ := c2 dn (by omega)
    have hlt : dn < (leftOf n fd).length := by omega
    have Bj := Bi.set a' b'
    have h1j : upd H'' p (.lst [.int a', .int b']) pl = some (.lst ((leftOf n fd).map V.int)) := by rw [upd_ne nppl]; exact h1
    have h2j : upd H'' p (.lst [.int a', .int b']) pf = some (.lst (fd.map V.int)) := by rw [upd_ne nppf]; exact h2
    generalize upd H'' p (.lst [.int a', .int b']) = Hj at Bj h1j h2j
    refine ⟨pl, _, (dn : Nat), dn, .int ((leftOf n fd).getD dn 0), rfl, rfl, h1j, by omega, by omega, ?_, ?_, ?_⟩
    · rw [List.length_map]
      exact (ixN_seq (ixN_nat hlt)).1
    · rw [List.getElem?_map, List.getElem?_eq_getElem hlt, getD_some (List.getElem?_eq_getElem hlt)]
      rfl
    have B6 : BG p Gs Hs G1 (upd Hj pl (.lst (((leftOf n fd).map V.int).eraseIdx dn))) := by
      obtain ⟨a2, b2, h⟩ := Bj.l
      exact ⟨Bj.x.own spl gpl, ⟨a2, b2, by rw [upd_ne (Ne.symm nppl)]; exact h⟩, Bj.gp, Bj.hp⟩
    have h2k : upd Hj pl (.lst (((leftOf n fd).map V.int).eraseIdx dn)) pf = some (.lst (fd.map V.int)) := by rw [upd_ne (Ne.symm npl)]; exact h2j
    refine ⟨pf, _, _, rfl, rfl, h2k, ?_, _, fd ++ [(leftOf n fd).getD dn 0], rfl, ?_, ?_, ?_, c3⟩
    · rw [List.length_map]
      have q := (allF_len n (by omega) i (by omega)).2 fd h3
      exact sz_lt (by omega)
    · obtain ⟨a2, b2, h⟩ := B6.l
      exact ⟨B6.x.own spf gpf, ⟨a2, b2, by rw [upd_ne (Ne.symm nppf)]; exact h⟩, B6.gp, B6.hp⟩
    · rw [upd_ne npl, upd_same, ← c4, map_erase]
    · rw [upd_same, List.map_append]
      rfl
  · subst hσ
    refine ⟨_, rfl, pf, _, rfl, Or.inl ⟨SqL.of h2, fun l hl => ?_⟩⟩
    have xl := Ext.new (o := .tup (fd.map V.int)) Bi.x.gh hl
    exact k _ fd _ _ h3 (Ex.trans x1.g xl.g) (Bi.ext xl) (.tup upd_same (RpAll.ofInts fd))
end
end U
namespace U
open PySem L2 Evl
section
variable {α : Type} [DecidableEq α]
def ixM : List α → α → Nat
  | [], _ => 0
  | y :: ys, x => if y = x then 0 else ixM ys x + 1
theorem ixM_at {x : α} : ∀ {xs : List α}, x ∈ xs → xs[ixM xs x]? = some x ∧ ∀ m, m < ixM xs x → xs[m]? ≠ some x
  | [], h => by simp at h
  | y :: ys, h => by
    unfold ixM
    by_cases e : y = x
    · rw [if_pos e, e]
      exact ⟨rfl, fun m hm => absurd hm (Nat.not_lt_zero m)⟩
    · rw [if_neg e]
      have hm : x ∈ ys := (List.mem_cons.mp h).resolve_left (Ne.symm e)
      obtain ⟨h1, h2⟩ := ixM_at hm
      refine ⟨by rw [List.getElem?_cons_succ]; exact h1, fun m hm => ?_⟩
      cases m with
      | zero => exact fun z => e (Option.some.inj z)
      | succ m =>
        rw [List.getElem?_cons_succ]
        exact h2 m (by omega)
end
def secM (o : Od) : List (List Int) := (tablesM o).2
def shM (o : Od) : List Int := (tablesM o).1.map fun r => (r.length : Int)
def matM (one other : List Od) : List (Od × Od) := one.map fun o => (o, other.getD (ixM (other.map secM) (secM o)) [])
abbrev dPr (p : Od × Od) : PyData := .tuple [dO p.1, dO p.2]
def tabH (h : List Od) : Bool := decide (1 ≤ h.length) && decide (h.length ≤ 100) && h.all fun o => tabOk o && decide ((tablesM o).1.length ≤ 20)
def matOk (one other : List Od) : Bool := tabH one && tabH other && decide (shM (one.getD 0 []) = shM (other.getD 0 [])) && one.all fun o => decide (secM o ∈ other.map secM)
def likeM (one other : List Od) (pairs : List (Od × Od)) : Bool :=
  let spots := pairs.map fun p => ixM other p.2
  decide (numT one = (numT other).map fun t => spots.map fun i => spots.map fun j => (t.getD i []).getD j 0)
def likeOk (one other : List Od) (pairs : List (Od × Od)) : Bool := numOk one && numOk other && decide (pairs.length ≤ 100) && pairs.all fun p => decide (p.2 ∈ other)
def oneH (found : List (List Od)) (one other : Od) : Bool := decide (found.filter (fun h => inO one h) = found.filter (fun h => inO other h))
def dueM (k : Nat) (one other : Od) : Int := if (decide (one.getD k 0 < one.getD (k + 1) 0) && decide (other.getD (k + 1) 0 < other.getD k 0)) = true then (if leadM other one > leadM one other then leadM other one else leadM one other) else 0
def nrOk (h : List Od) : Bool := (List.range ((h.getD 0 []).length - 1)).all fun k => (List.range h.length).all fun i => (List.range h.length).all fun j => decide (i = j) || decide (numM (k + 1) (h.getD i []) (h.getD j []) = dueM k (h.getD i []) (h.getD j []))
theorem tabH_at {h : List Od} (hh : tabH h = true) : (1 ≤ h.length ∧ h.length ≤ 100) ∧ ∀ o, o ∈ h → tabOk o = true ∧ (tablesM o).1.length ≤ 20 := by
  unfold tabH at hh
  simp only [Bool.and_eq_true, decide_eq_true_eq, List.all_eq_true] at hh
  exact hh
theorem head_at {h : List Od} (h1 : 1 ≤ h.length) : h[0]? = some (h.getD 0 []) := by
  rw [List.getElem?_eq_getElem (by omega), getD_some (List.getElem?_eq_getElem (by omega))]
section
variable {P : Program} {w : World} {K : PySem.W.Frag} {mg : Str → Option Value} {base : Heap}
abbrev RMat := RF (fun x : List Od × List Od => [dOs x.1, dOs x.2]) (fun x => matOk x.1 x.2 = true) fun x => .list ((matM x.1 x.2).map dPr)
theorem ok_matched (T : Txt K mg) : FnOk P w K mg base CX0 5 T.matched.f T.matched.fd ["one", "other"] (PSp RMat) := by
  refine T.matched.F.ok sc_matched (fun vs H Q E h => psp_len (rf_len fun _ => rfl) h) (fun cdv A outer s H vs Q E hr h => ?_)
  refine ⟨_, (pss_cons (ps_setLc (i := 2) (own := [("hearth", 4)]) (g := gName 4) (tt := tYes) rfl sc_matched.nd rfl rfl (sw_true rfl rfl rfl (by decide +kernel)) (kpi_tup (K := K) rfl (pe_tup (pa_cons (pv 0) (pa_cons (pv 1) pa_nil)))) (blkOk_by (N := ["one", "other", "shapes", "seconds", "hearth", "order"]) (sc := defScope s_matched) (by decide +kernel)) (fun _ _ _ _ _ => (pg_name (i := 4) sc_matched.nd rfl (by first | exact Or.inl rfl | exact Or.inr rfl))) (fun _ _ _ _ _ => pts_nil) (fun _ _ _ _ _ => (pe_dn T.shape (ok_shape T) hr (by decide) (pa_cons (pe_ix (k_ixT (K := K) rfl) (pe_dn T.first_and_second (ok_first_and_second T) hr (by decide) (pa_cons (pe_ix (k_ixL (K := K) rfl) (pv 4) pe_int (fun _ _ => rfl)) pa_nil)) pe_int (fun _ _ => rfl)) pa_nil))))
      (pss_cons (ps_if (pt_cmpR (k_neD (K := K) rfl (hu64 hr)) (pe_ix (k_ixL (K := K) rfl) (pv 2) pe_int (fun _ _ => rfl)) (pe_ix (k_ixL (K := K) rfl) (pv 2) pe_int (fun _ _ => rfl)) (nomark _))
        (pss_one ps_never)
        pss_nil)
      (pss_cons (ps_set (i := 3) sc_matched.nd rfl (Or.inr rfl) (pe_lc (own := [("order", 5)]) (g := gName 5) (tt := tYes) rfl sc_matched.nd (kpi_list (K := K) rfl (pv 1)) (blkOk_by (N := ["one", "other", "shapes", "seconds", "hearth", "order"]) (sc := defScope s_matched) (by decide +kernel)) (fun _ _ _ _ _ => (pg_name (i := 5) sc_matched.nd rfl (by first | exact Or.inl rfl | exact Or.inr rfl))) (fun _ _ _ _ _ => pts_nil) (fun _ _ _ _ _ => (pe_ix (k_ixT (K := K) rfl) (pe_dn T.first_and_second (ok_first_and_second T) hr (by decide) (pa_cons (pv 5) pa_nil)) pe_int (fun _ _ => rfl)))))
      (pss_one (ps_ret (pe_lc (own := [("order", 5)]) (g := gName 5) (tt := tYes) rfl sc_matched.nd (kpi_list (K := K) rfl (pv 0)) (blkOk_by (N := ["one", "other", "shapes", "seconds", "hearth", "order"]) (sc := defScope s_matched) (by decide +kernel)) (fun _ _ _ _ _ => (pg_name (i := 5) sc_matched.nd rfl (by first | exact Or.inl rfl | exact Or.inr rfl))) (fun _ _ _ _ _ => pts_nil) (fun _ _ _ _ _ => (pe_tup (pa_cons (pv 5) (pa_cons (pe_ix (k_ixL (K := K) rfl) (pv 1) (kpe_bx (K := K) rfl (pe_bm PySem.F.plainAttrs_list PySem.F.slot_list_index PySem.F.type_list_index (k_index (K := K) rfl (hu65 hr)) (pv 3) (pa_cons (pe_ix (k_ixT (K := K) rfl) (pe_dn T.first_and_second (ok_first_and_second T) hr (by decide) (pa_cons (pv 5) pa_nil)) pe_int (fun _ _ => rfl)) pa_nil))) (fun _ _ => rfl)) pa_nil)))))))))), ?_⟩
  refine rd_does 4 2 h rfl (rf_len fun _ => rfl) fun G0 H0 ds d hR => ?_
  obtain ⟨⟨one, other⟩, rfl, hok, rfl⟩ := hR
  have hok : matOk one other = true := hok
  unfold matOk at hok
  simp only [Bool.and_eq_true, decide_eq_true_eq, List.all_eq_true] at hok
  obtain ⟨⟨⟨t1, t2⟩, hsh⟩, hsec⟩ := hok
  obtain ⟨⟨a1, a2⟩, a3⟩ := tabH_at t1
  obtain ⟨⟨b1, b2⟩, b3⟩ := tabH_at t2
  refine does_seq (does_asg (nl_mapTX (fe := dOs) (xs := [one, other]) (dv_tup (av_cons (dv_var rfl) (av_cons (dv_var rfl) av_nil)) (by show 2 ≤ 100000; decide)) (fun h => dLs (shM (h.getD 0 []))) (by show 2 ≤ 40000; decide) fun h hh => ?_).dv) ?_
  · have hx : tabH h = true := by
      rcases List.mem_cons.mp hh with z | z
      · rw [z]; exact t1
      · rw [List.mem_singleton.mp z]; exact t2
    obtain ⟨⟨h1, _⟩, h3⟩ := tabH_at hx
    have h0 := head_at h1
    obtain ⟨c1, c2⟩ := h3 _ (List.mem_of_getElem? h0)
    exact dv_call (av_cons (dv_ixT (n := 0) (dv_call (av_cons (dv_ixL (n := 0) (dv_var rfl) dv_int.r rfl (map_at (f := dO) h0)) av_nil) ⟨_, rfl, c1, rfl⟩) dv_int.r rfl rfl) av_nil) ⟨_, rfl, c2, rfl⟩
  refine does_seq (does_ifF ((tv_cmp (dv_neD (dv_ixL (n := 0) (dv_var rfl) dv_int.r rfl rfl).r (dv_ixL (n := 1) (dv_var rfl) dv_int.r rfl rfl).r (encLs.shaped (by decide) _) (encLs.shaped (by decide) _)).r).is ?_) does_next) ?_
  · rw [encLs.eqv, hsh, decide_eq_true rfl]
    rfl
  refine does_seq (does_asg (nl_mapX (fe := dO) (xs := other) (dv_var rfl) (fun o => dLL (secM o)) (by omega) fun o ho => dv_ixT (n := 1) (dv_call (av_cons (dv_var rfl) av_nil) ⟨o, rfl, (b3 o ho).1, rfl⟩) dv_int.r rfl rfl).dv) ?_
  refine does_ret ((nl_mapX (fe := dO) (xs := one) (dv_var rfl) (fun o => dPr (o, other.getD (ixM (other.map secM) (secM o)) [])) (by omega) fun o ho => ?_).is ?_).dv
  · obtain ⟨i1, i2⟩ := ixM_at (hsec o ho)
    have hlt := (List.getElem?_eq_some_iff.mp i1).1
    rw [List.length_map] at hlt
    refine dv_tup (av_cons (dv_var rfl) (av_cons (dv_ixL (n := ixM (other.map secM) (secM o)) (dv_var rfl) (dv_index (f := dLL) encLL (by decide) (xs := other.map secM) (x := secM o) ((dv_var rfl).r.is ?_) (dv_ixT (n := 1) (dv_call (av_cons (dv_var rfl) av_nil) ⟨o, rfl, (a3 o ho).1, rfl⟩) dv_int.r rfl rfl).r i1 i2).r rfl ?_) av_nil)) (by show 2 ≤ 100000; decide)
    · show PyData.list (other.map fun o => dLL (secM o)) = PyData.list ((other.map secM).map dLL)
      rw [List.map_map]
      rfl
    · rw [List.getElem?_map, List.getElem?_eq_getElem hlt, getD_some (List.getElem?_eq_getElem hlt)]
      rfl
  · show _ = (matM one other).map dPr
    unfold matM
    rw [List.map_map]
    rfl
abbrev ROneH := RF (fun x : List (List Od) × Od × Od => [dOss x.1, dO x.2.1, dO x.2.2]) (fun x => x.1.length ≤ 100) fun x => .bool (oneH x.1 x.2.1 x.2.2)
theorem ok_law_one_hearth (T : Txt K mg) : FnOk P w K mg base CX0 1 T.law_one_hearth.f T.law_one_hearth.fd ["_law_found", "_law_one", "_law_other"] (PSp ROneH) := by
  refine T.law_one_hearth.F.ok sc_law_one_hearth (fun vs H Q E h => psp_len (rf_len fun _ => rfl) h) (fun cdv A outer s H vs Q E hr h => ?_)
  refine ⟨_, (pss_one (ps_ret (pe_cmpR (k_eqD (K := K) rfl (hu64 hr)) (pe_lc (own := [("_law_hearth", 3)]) (g := gName 3) rfl sc_law_one_hearth.nd (kpi_list (K := K) rfl (pv 0)) (blkOk_by (N := ["_law_found", "_law_one", "_law_other", "_law_hearth"]) (sc := defScope s_law_one_hearth) (by decide +kernel)) (fun _ _ _ _ _ => (pg_name (i := 3) sc_law_one_hearth.nd rfl (by first | exact Or.inl rfl | exact Or.inr rfl))) (fun _ _ _ _ _ => (pts_one (pt_cmpR (k_inD (K := K) rfl (hu65 hr)) (pv 1) (pv 3) (by rfl)))) (fun _ _ _ _ _ => (pv 3))) (pe_lc (own := [("_law_hearth", 3)]) (g := gName 3) rfl sc_law_one_hearth.nd (kpi_list (K := K) rfl (pv 0)) (blkOk_by (N := ["_law_found", "_law_one", "_law_other", "_law_hearth"]) (sc := defScope s_law_one_hearth) (by decide +kernel)) (fun _ _ _ _ _ => (pg_name (i := 3) sc_law_one_hearth.nd rfl (by first | exact Or.inl rfl | exact Or.inr rfl))) (fun _ _ _ _ _ => (pts_one (pt_cmpR (k_inD (K := K) rfl (hu65 hr)) (pv 2) (pv 3) (by rfl)))) (fun _ _ _ _ _ => (pv 3))) (nomark _)))), ?_⟩
  refine rd_does 1 3 h rfl (rf_len fun _ => rfl) fun G0 H0 ds d hR => ?_
  obtain ⟨⟨found, one, other⟩, rfl, hl, rfl⟩ := hR
  have hl : found.length ≤ 100 := hl
  refine does_ret ((dv_eqD (nl_filX (fe := dOs) (xs := found) (dv_var rfl) (fun h => inO one h) (by omega) (by show 3 < 4; decide) fun h hh => ?_).r (nl_filX (fe := dOs) (xs := found) (dv_var rfl) (fun h => inO other h) (by omega) (by show 3 < 4; decide) fun h hh => ?_).r (encOss.shaped (by decide) _) (encOss.shaped (by decide) _)).is ?_)
  · refine tv_cmp ((dv_inD (ds := h.map dO) (dv_var rfl).r (dv_var rfl).r (encO.shaped (by decide) one) (encOs.shaped (by decide) h)).r.is ?_)
    rw [any_enc encO]
    rfl
  · refine tv_cmp ((dv_inD (ds := h.map dO) (dv_var rfl).r (dv_var rfl).r (encO.shaped (by decide) other) (encOs.shaped (by decide) h)).r.is ?_)
    rw [any_enc encO]
    rfl
  · show PyData.bool (PyData.eqv (dOss _) (dOss _)) = _
    rw [encOss.eqv]
    rfl
abbrev RLike := RF (fun x : List Od × List Od × List (Od × Od) => [dOs x.1, dOs x.2.1, .list (x.2.2.map dPr)]) (fun x => likeOk x.1 x.2.1 x.2.2 = true) fun x => .bool (likeM x.1 x.2.1 x.2.2)
theorem numT_row {h : List Od} {t : List (List Int)} (ht : t ∈ numT h) : t.length = h.length ∧ ∀ r, r ∈ t → r.length = h.length := by
  unfold numT at ht
  obtain ⟨i, _, rfl⟩ := List.mem_map.mp ht
  refine ⟨List.length_map _, fun r hr => ?_⟩
  obtain ⟨o, _, rfl⟩ := List.mem_map.mp hr
  exact List.length_map _
theorem gd {α : Type} {xs : List α} {i : Nat} {d : α} (h : i < xs.length) : xs[i]? = some (xs.getD i d) := by
  rw [List.getElem?_eq_getElem h, getD_some (List.getElem?_eq_getElem h)]
theorem ok_law_like (T : Txt K mg) : FnOk P w K mg base CX0 24 T.law_like.f T.law_like.fd ["_law_one", "_law_other", "_law_pairs"] (PSp RLike) := by
  refine T.law_like.F.ok sc_law_like (fun vs H Q E h => psp_len (rf_len fun _ => rfl) h) (fun cdv A outer s H vs Q E hr h => ?_)
  refine ⟨_, (pss_cons (ps_set (i := 3) sc_law_like.nd rfl (Or.inr rfl) (pe_lc (own := [("_law_pair", 6)]) (g := gName 6) (tt := tYes) rfl sc_law_like.nd (kpi_list (K := K) rfl (pv 2)) (blkOk_by (N := ["_law_one", "_law_other", "_law_pairs", "_law_spots", "_law_mine", "_law_yours", "_law_pair", "_law_table", "_law_i", "_law_j"]) (sc := defScope s_law_like) (by decide +kernel)) (fun _ _ _ _ _ => (pg_name (i := 6) sc_law_like.nd rfl (by first | exact Or.inl rfl | exact Or.inr rfl))) (fun _ _ _ _ _ => pts_nil) (fun _ _ _ _ _ => (kpe_bx (K := K) rfl (pe_bm PySem.F.plainAttrs_list PySem.F.slot_list_index PySem.F.type_list_index (k_index (K := K) rfl (hu65 hr)) (pv 1) (pa_cons (pe_ix (k_ixT (K := K) rfl) (pv 6) pe_int (fun _ _ => rfl)) pa_nil))))))
      (pss_cons (ps_set (i := 4) sc_law_like.nd rfl (Or.inl rfl) (pe_dn T.number_tables (ok_number_tables T) hr (by decide) (pa_cons (pv 0) pa_nil)))
      (pss_cons (ps_set (i := 5) sc_law_like.nd rfl (Or.inl rfl) (pe_dn T.number_tables (ok_number_tables T) hr (by decide) (pa_cons (pv 1) pa_nil)))
      (pss_one (ps_ret (pe_cmpR (k_eqD (K := K) rfl (hu64 hr)) (pv 4) (pe_lc (own := [("_law_table", 7)]) (g := gName 7) (tt := tYes) rfl sc_law_like.nd (kpi_list (K := K) rfl (pv 5)) (blkOk_by (N := ["_law_one", "_law_other", "_law_pairs", "_law_spots", "_law_mine", "_law_yours", "_law_pair", "_law_table", "_law_i", "_law_j"]) (sc := defScope s_law_like) (by decide +kernel)) (fun _ _ _ _ _ => (pg_name (i := 7) sc_law_like.nd rfl (by first | exact Or.inl rfl | exact Or.inr rfl))) (fun _ _ _ _ _ => pts_nil) (fun _ _ _ _ _ => (pe_lc (own := [("_law_i", 8)]) (g := gName 8) (tt := tYes) rfl sc_law_like.nd (kpi_list (K := K) rfl (pv 3)) (blkOk_by (N := ["_law_one", "_law_other", "_law_pairs", "_law_spots", "_law_mine", "_law_yours", "_law_pair", "_law_table", "_law_i", "_law_j"]) (sc := relS _ (defScope s_law_like)) (by decide +kernel)) (fun _ _ _ _ _ => (pg_name (i := 8) sc_law_like.nd rfl (by first | exact Or.inl rfl | exact Or.inr rfl))) (fun _ _ _ _ _ => pts_nil) (fun _ _ _ _ _ => (pe_lc (own := [("_law_j", 9)]) (g := gName 9) (tt := tYes) rfl sc_law_like.nd (kpi_list (K := K) rfl (pv 3)) (blkOk_by (N := ["_law_one", "_law_other", "_law_pairs", "_law_spots", "_law_mine", "_law_yours", "_law_pair", "_law_table", "_law_i", "_law_j"]) (sc := relS _ (relS _ (defScope s_law_like))) (by decide +kernel)) (fun _ _ _ _ _ => (pg_name (i := 9) sc_law_like.nd rfl (by first | exact Or.inl rfl | exact Or.inr rfl))) (fun _ _ _ _ _ => pts_nil) (fun _ _ _ _ _ => (pe_ix (k_ixL (K := K) rfl) (pe_ix (k_ixL (K := K) rfl) (pv 7) (pv 8) (fun _ _ => rfl)) (pv 9) (fun _ _ => rfl)))))))) (nomark _))))))), ?_⟩
  refine rd_does 7 3 h rfl (rf_len fun _ => rfl) fun G0 H0 ds d hR => ?_
  obtain ⟨⟨one, other, pairs⟩, rfl, hok, rfl⟩ := hR
  have hok : likeOk one other pairs = true := hok
  unfold likeOk at hok
  simp only [Bool.and_eq_true, decide_eq_true_eq, List.all_eq_true] at hok
  obtain ⟨⟨⟨n1, n2⟩, hl⟩, hp⟩ := hok
  refine does_seq (does_asg (NL.is (es := (pairs.map fun p => ixM other p.2).map fun i : Nat => dI i) (nl_mapX (fe := dPr) (xs := pairs) (dv_var rfl) (fun p => dI (ixM other p.2 : Nat)) (by omega) fun p hpm => ?_) ?_).dv) ?_
  · obtain ⟨i1, i2⟩ := ixM_at (hp p hpm)
    exact dv_index (f := dO) encO (by decide) (xs := other) (x := p.2) (dv_var rfl).r (dv_ixT (n := 1) (dv_var rfl) dv_int.r rfl rfl).r i1 i2
  · rw [List.map_map]
    rfl
  have hsp : ∀ i, i ∈ (pairs.map fun p => ixM other p.2) → i < other.length := fun i hi => by
    obtain ⟨p, hpm, rfl⟩ := List.mem_map.mp hi
    exact (List.getElem?_eq_some_iff.mp (ixM_at (hp p hpm)).1).1
  have hsl : (pairs.map fun p => ixM other p.2).length ≤ 100 := by rw [List.length_map]; exact hl
  show Does G0 H0 _ _ (.rt (.bool (decide (numT one = (numT other).map fun t => (pairs.map fun p => ixM other p.2).map fun i => (pairs.map fun p => ixM other p.2).map fun j => (t.getD i []).getD j 0))))
  generalize (pairs.map fun p => ixM other p.2) = spots at hsp hsl ⊢
  refine does_seq (does_asg (dv_call (av_cons (dv_var rfl) av_nil) ⟨one, rfl, n1, rfl⟩)) ?_
  refine does_seq (does_asg (dv_call (av_cons (dv_var rfl) av_nil) ⟨other, rfl, n2, rfl⟩)) ?_
  have hnl : (numT other).length ≤ 100 := by
    unfold numT
    rw [List.length_map, List.length_range]
    unfold numOk at n2
    simp only [Bool.and_eq_true, decide_eq_true_eq, List.all_eq_true] at n2
    obtain ⟨⟨q1, q2⟩, q3⟩ := n2
    have q4 := (dom_inv (q3 _ (List.mem_of_getElem? (head_at q1))).1).2.1
    omega
  refine does_ret ((dv_eqD (dv_var rfl).r (NL.is (es := ((numT other).map fun t => spots.map fun i => spots.map fun j => (t.getD i []).getD j 0).map dLL) (nl_mapX (fe := dLL) (xs := numT other) (dv_var rfl) (fun t => dLL (spots.map fun i => spots.map fun j => (t.getD i []).getD j 0)) (by omega) fun t ht => ?_) ?_).r (encLLL.shaped (by decide) _) (encLLL.shaped (by decide) _)).is ?_)
  · obtain ⟨l1, l2⟩ := numT_row ht
    refine (NL.is (es := (spots.map fun i => spots.map fun j => (t.getD i []).getD j 0).map dLs) (nl_mapX (fe := fun i : Nat => dI i) (xs := spots) (dv_var rfl) (fun i => dLs (spots.map fun j => (t.getD i []).getD j 0)) (by omega) fun i hi => ?_) ?_).dv
    · have hi2 := hsp i hi
      have hr : t[i]? = some (t.getD i []) := gd (by omega)
      have hrl := l2 _ (List.mem_of_getElem? hr)
      refine (NL.is (es := (spots.map fun j => (t.getD i []).getD j 0).map dI) (nl_mapX (fe := fun i : Nat => dI i) (xs := spots) (dv_var rfl) (fun j => dI ((t.getD i []).getD j 0)) (by omega) fun j hj => ?_) ?_).dv
      · have hj2 := hsp j hj
        exact dv_ixL (n := j) (dv_ixL (n := i) (dv_var rfl) (dv_var rfl).r rfl (map_at (f := dLs) hr)) (dv_var rfl).r rfl (map_at (f := dI) (gd (by omega)))
      · rw [List.map_map]
        rfl
    · rw [List.map_map]
      rfl
  · rw [List.map_map]
    rfl
  · show PyData.bool (PyData.eqv (dLLL _) (dLLL _)) = _
    rw [encLLL.eqv]
abbrev RNr := RF (fun h : List Od => [dOs h]) (fun h => (numOk h && nrOk h) = true) fun _ => .bool true
theorem ok_law_numbers_right (T : Txt K mg) : FnOk P w K mg base CX0 24 T.law_numbers_right.f T.law_numbers_right.fd ["_law_hearth"] (PSp RNr) := by
  refine T.law_numbers_right.F.ok sc_law_numbers_right (fun vs H Q E h => psp_len (rf_len fun _ => rfl) h) (fun cdv A outer s H vs Q E hr h => ?_)
  refine ⟨_, (pss_cons (ps_for PassesOwn.never rfl (pi_enum (by rfl) T.enumerate (pa_cons (pe_dn T.number_tables (ok_number_tables T) hr (by decide) (pa_cons (pv 0) pa_nil)) pa_nil)) (pg_tup rfl (pgs_cons (pg_name (i := 1) sc_law_numbers_right.nd rfl (Or.inl rfl)) (pgs_cons (pg_name (i := 2) sc_law_numbers_right.nd rfl (Or.inl rfl)) pgs_nil)))
        (pss_one (ps_for PassesOwn.never rfl (pi_enum (by rfl) T.enumerate (pa_cons (pv 0) pa_nil)) (pg_tup rfl (pgs_cons (pg_name (i := 3) sc_law_numbers_right.nd rfl (Or.inl rfl)) (pgs_cons (pg_name (i := 4) sc_law_numbers_right.nd rfl (Or.inl rfl)) pgs_nil)))
          (pss_one (ps_for PassesOwn.never rfl (pi_enum (by rfl) T.enumerate (pa_cons (pv 0) pa_nil)) (pg_tup rfl (pgs_cons (pg_name (i := 5) sc_law_numbers_right.nd rfl (Or.inl rfl)) (pgs_cons (pg_name (i := 6) sc_law_numbers_right.nd rfl (Or.inl rfl)) pgs_nil)))
            (pss_cons (ps_set (i := 7) sc_law_numbers_right.nd rfl (Or.inl rfl) pe_int)
            (pss_cons (ps_if (PW.pt (pw_and (pt_cmpR op_lt (pe_ix (k_ixT (K := K) rfl) (pv 4) (pv 1) (fun _ _ => rfl)) (pe_ix (k_ixT (K := K) rfl) (pv 4) (pe_op op_add (pv 1) pe_int) (fun _ _ => rfl)) (nomark _)) (pw_and1 (pt_cmpR op_gt (pe_ix (k_ixT (K := K) rfl) (pv 6) (pv 1) (fun _ _ => rfl)) (pe_ix (k_ixT (K := K) rfl) (pv 6) (pe_op op_add (pv 1) pe_int) (fun _ _ => rfl)) (nomark _)))))
              (pss_one (ps_set (i := 7) sc_law_numbers_right.nd rfl (Or.inl rfl) (pe_callB (call_max2 rfl) (by rfl) T.max (by decide +kernel) (pa_cons (pe_dn T.lead (ok_lead T) hr (by decide) (pa_cons (pv 4) (pa_cons (pv 6) pa_nil))) (pa_cons (pe_dn T.lead (ok_lead T) hr (by decide) (pa_cons (pv 6) (pa_cons (pv 4) pa_nil))) pa_nil)))))
              pss_nil)
            (pss_one (ps_if (PW.pt (pw_and (pt_cmpR op_ne (pv 3) (pv 5) (nomark _)) (pw_and1 (pt_cmpR op_ne (pe_ix (k_ixL (K := K) rfl) (pe_ix (k_ixL (K := K) rfl) (pv 2) (pv 3) (fun _ _ => rfl)) (pv 5) (fun _ _ => rfl)) (pv 7) (nomark _)))))
              (pss_one (ps_ret pe_bl))
              pss_nil)))))))))
      (pss_one (ps_ret pe_bl))), ?_⟩
  refine rd_does 7 1 h rfl (rf_len fun _ => rfl) fun G0 H0 ds d hR => ?_
  obtain ⟨h, rfl, hok, rfl⟩ := hR
  obtain ⟨n1, n2⟩ := Bool.and_eq_true_iff.mp hok
  have n0 := n1
  unfold numOk at n1
  unfold nrOk at n2
  simp only [Bool.and_eq_true, decide_eq_true_eq, List.all_eq_true] at n1
  obtain ⟨⟨hl1, hl2⟩, ho⟩ := n1
  simp only [List.all_eq_true, List.mem_range, Bool.or_eq_true, decide_eq_true_eq] at n2
  refine does_seq (does_forE (ds := (numT h).map dLL) (av_cons (dv_call (av_cons (dv_var rfl) av_nil) ⟨h, rfl, n0, rfl⟩) av_nil) (fun _ => [.imm (dOs h), .any, .any, .any, .any, .any, .any, .any]) rfl fun k d hd => ?_) (does_ret dv_bl)
  obtain ⟨table, htb, rfl⟩ := at_map hd
  have hk : k < (h.getD 0 []).length - 1 := by
    have q := (List.getElem?_eq_some_iff.mp htb).1
    unfold numT at q
    rw [List.length_map, List.length_range] at q
    exact q
  have etb : table = h.map fun one => h.map fun other => numM (k + 1) one other := by
    unfold numT at htb
    rw [List.getElem?_map, List.getElem?_range hk] at htb
    exact (Option.some.inj htb).symm
  refine does_wk (does_forE (ds := h.map dO) (av_cons (dv_var rfl) av_nil) (fun _ => [.imm (dOs h), .imm (dI k), .imm (dLL table), .any, .any, .any, .any, .any]) rfl fun i d hd => ?_) (.keep (.drop (.drop (.keep (.keep (.keep (.keep (.keep .nil))))))))
  obtain ⟨one, hone, rfl⟩ := at_map hd
  refine does_wk (does_forE (ds := h.map dO) (av_cons (dv_var rfl) av_nil) (fun _ => [.imm (dOs h), .imm (dI k), .imm (dLL table), .imm (dI i), .imm (dO one), .any, .any, .any]) rfl fun j d hd => ?_) (.keep (.keep (.keep (.drop (.drop (.keep (.keep (.keep .nil))))))))
  obtain ⟨other, hother, rfl⟩ := at_map hd
  obtain ⟨d1, l1⟩ := ho one (List.mem_of_getElem? hone)
  obtain ⟨d2, l2⟩ := ho other (List.mem_of_getElem? hother)
  have fact := n2 k hk i (List.getElem?_eq_some_iff.mp hone).1 j (List.getElem?_eq_some_iff.mp hother).1
  rw [getD_some hone, getD_some hother] at fact
  refine does_seq (does_asg dv_int) ?_
  have c1 : ∀ (o : Od) (m : Nat), m < o.length → (o.map PyData.int)[m]? = some (.int (o.getD m 0)) := fun o m hm => getD_at hm
  have tv : TV H0 (tAnd
                    (tTest
                      (tOp (rI0 fun i j => V.bl (decide (i < j))) (tOp (rIxT K) (tVar 4) (tVar 1))
                        (tOp (rIxT K) (tVar 4) (tOp (rI0 fun i j => V.int (i + j)) (tVar 1) (tC (V.int 1))))))
                    (tTest
                      (tOp (rI0 fun i j => V.bl (decide (j < i))) (tOp (rIxT K) (tVar 6) (tVar 1))
                        (tOp (rIxT K) (tVar 6) (tOp (rI0 fun i j => V.int (i + j)) (tVar 1) (tC (V.int 1)))))))
     [.imm (dOs h), .imm (dI k), .imm (dLL table), .imm (dI i), .imm (dO one), .imm (dI j), .imm (dO other), .imm (dI 0)] (decide (one.getD k 0 < one.getD (k + 1) 0) && decide (other.getD (k + 1) 0 < other.getD k 0)) :=
    tv_and (tv_cmp (dv_ib (f := fun i j => decide (i < j)) (dv_ixT (n := k) (dv_var rfl) (dv_var rfl).r rfl (c1 one k (by omega))).r (dv_ixT (n := k + 1) (dv_var rfl) (dvr_succ (dv_var rfl).r) rfl (c1 one (k + 1) (by omega))).r).r)
      fun _ => tv_cmp (dv_ib (f := fun i j => decide (j < i)) (dv_ixT (n := k) (dv_var rfl) (dv_var rfl).r rfl (c1 other k (by omega))).r (dv_ixT (n := k + 1) (dv_var rfl) (dvr_succ (dv_var rfl).r) rfl (c1 other (k + 1) (by omega))).r).r
  refine does_seq (ρ' := [.imm (dOs h), .imm (dI k), .imm (dLL table), .imm (dI i), .imm (dO one), .imm (dI j), .imm (dO other), .imm (dI (dueM k one other))]) (does_if tv (fun hb => ?_) fun hb => ?_) ?_
  · refine (does_asg (dv_max (dv_call (av_cons (dv_var rfl) (av_cons (dv_var rfl) av_nil)) ⟨(one, other), rfl, ⟨by show one.length = other.length; omega, d1, d2⟩, rfl⟩).r (dv_call (av_cons (dv_var rfl) (av_cons (dv_var rfl) av_nil)) ⟨(other, one), rfl, ⟨by show other.length = one.length; omega, d2, d1⟩, rfl⟩).r)).nx ?_
    unfold dueM
    rw [if_pos hb]
    rfl
  · refine does_next.nx ?_
    unfold dueM
    rw [if_neg (by rw [hb]; exact Bool.false_ne_true)]
    rfl
  · refine does_wk (does_ifF ?_ does_next) (.keep (.keep (.keep (.keep (.keep (.drop (.drop (.drop .nil))))))))
    by_cases hij : i = j
    · refine (tv_and (b := false) (c := true) ((tv_cmp (dv_neI (dv_var rfl).r (dv_var rfl).r).r).is ?_) (fun z => nomatch z))
      rw [dec_nat, decide_eq_true hij]
      rfl
    · have fact := fact.resolve_left hij
      have hrow : table[i]? = some (h.map fun other => numM (k + 1) one other) := by
        rw [etb, List.getElem?_map, hone]
        rfl
      have hcel : (h.map fun other => numM (k + 1) one other)[j]? = some (numM (k + 1) one other) := by
        rw [List.getElem?_map, hother]
        rfl
      refine (tv_and (b := true) (c := false) ((tv_cmp (dv_neI (dv_var rfl).r (dv_var rfl).r).r).is ?_) fun _ => ((tv_cmp (dv_neI (dv_ixL (n := j) (dv_ixL (n := i) (dv_var rfl) (dv_var rfl).r rfl (map_at (f := dLs) hrow)) (dv_var rfl).r rfl (map_at (f := dI) hcel)).r (dv_var rfl).r).r).is ?_))
      · rw [dec_nat, decide_eq_false hij]
        rfl
      · rw [fact, decide_eq_true rfl]
        rfl
end
end U
namespace U
open PySem L2 Evl
/-! ### the finite law -/
def alikeM (one other : Od) : List Bool := [decide ((tablesM one).1 = (tablesM other).1), decide (secM one = secM other), decide (shM one = shM other)]
def ansM (hs : List (List (List Od))) (one other : Od) : List Bool := hs.map fun f => oneH f one other
def headOf (n : Nat) (one : Od) : List Od := ((rightsT n).filter fun h => inO one h).getD 0 []
def lawOk1 (n : Nat) (one : Od) : Bool := tabOk one && decide ((tablesM one).1.length ≤ 20) && decide (headOf n one ∈ rightsT n) && decide (((rightsT n).filter fun h => inO one h) ≠ []) && decide (shM one = shM ((headOf n one).getD 0 []))
theorem law1 : ∀ n, n < 5 → 1 ≤ n → ((allO n).all (lawOk1 n)) = true := by decide +kernel
def lawOk2 (n : Nat) : Bool :=
  let hs := [rightsT n, leftsN n, bothN n]
  hs.all (fun f => decide (f.length ≤ 100)) && (allO n).all fun one => (allO n).all fun other => decide (ansM hs one other = alikeM one other)
theorem law2 : ∀ n, n < 5 → 1 ≤ n → lawOk2 n = true := by decide +kernel
def pairH (h far : List Od) : Bool := if shM (h.getD 0 []) = shM (far.getD 0 []) then matOk h far && likeOk h far (matM h far) && likeM h far (matM h far) else true
def lawOk3 (n : Nat) : Bool := (rightsT n).all (fun h => numOk h && nrOk h) && (rightsT n).all fun h => (rightsT n).all fun far => pairH h far
theorem law3 : ∀ n, n < 5 → 1 ≤ n → lawOk3 n = true := by decide +kernel
end U
namespace U
open PySem L2 Evl
section
variable {P : Program} {w : World} {K : PySem.W.Frag} {mg : Str → Option Value} {base : Heap}
def spEnd (K : PySem.W.Frag) : Sp := fun vs H Q _ => ∃ (a : Addr) (ns : List Int), vs = [.ref a] ∧ SqL K H a (ns.map V.int) ∧ ∀ H', Q (.bl true) H'
theorem run_does {G0 H0 G H : Hp} {t : TS} {ρ : Rho} {d : PyData} {D : Ends} {σ : L2.St} (hD : Does G0 H0 t ρ (.rt d)) (x : Ext G0 H0 G H) (S : Slots H0 ρ σ G H) (k : ∀ v G' H', Ext G0 H0 G' H' → Ex G G' → Rp G' v d → D.rt v H') : t D σ H := hD D σ G H x S k
theorem head_in {n : Nat} {one : Od} (h : ((rightsT n).filter fun h => inO one h) ≠ []) : (((rightsT n).filter fun h => inO one h).map dOs)[0]? = some (dOs (headOf n one)) := by
  unfold headOf
  cases hf : (rightsT n).filter fun h => inO one h with
  | nil => exact absurd hf h
  | cons x xs => rfl
theorem ok_law (T : Txt K mg) : FnOk P w K mg base CX0 26 T.law.f T.law.fd ["_law_script"] (spEnd K) := by
  refine T.law.F.ok sc_law (fun vs H Q E h => ?_) (fun cdv A outer s H vs Q E hr h => ?_)
  · obtain ⟨a, ns, rfl, _⟩ := h
    rfl
  refine ⟨_, (pss_cons (ps_set (i := 1) sc_law.nd rfl (Or.inl rfl) (pe_dn T.law_bag (ok_law_bag T) hr (by decide) (pa_cons (pe_dn T.law_cell (ok_law_cell T) hr (by decide) (pa_cons (pv 0) (pa_cons pe_int pa_nil))) (pa_cons pe_int pa_nil))))
      (pss_cons (ps_set (i := 2) sc_law.nd rfl (Or.inl rfl) (pe_ix (k_ixL (K := K) rfl) (pe_lst (pa_cons pe_int (pa_cons pe_int (pa_cons pe_int (pa_cons pe_int (pa_cons pe_int (pa_cons pe_int pa_nil))))))) (pe_dn T.law_digit (ok_law_digit T) hr (by decide) (pa_cons (pv 1) (pa_cons pe_int pa_nil))) (fun _ _ => rfl)))
      (pss_cons (ps_set (i := 3) sc_law.nd rfl (Or.inr rfl) (pe_dn T.law_order (ok_law_order T) hr (by decide) (pa_cons (pv 1) (pa_cons (pv 2) pa_nil))))
      (pss_cons (ps_set (i := 4) sc_law.nd rfl (Or.inr rfl) (pe_dn T.law_order (ok_law_order T) hr (by decide) (pa_cons (pe_dn T.law_bag (ok_law_bag T) hr (by decide) (pa_cons (pe_dn T.law_cell (ok_law_cell T) hr (by decide) (pa_cons (pv 0) (pa_cons pe_int pa_nil))) (pa_cons pe_int pa_nil))) (pa_cons (pv 2) pa_nil))))
      (pss_cons (ps_set (i := 5) sc_law.nd rfl (Or.inl rfl) (pe_dn T.tables (ok_tables T) hr (by decide) (pa_cons (pe_callTy (k_list (K := K) rfl) (by rfl) T.list (by decide +kernel) (pa_cons (pv 3) pa_nil)) pa_nil)))
      (pss_cons (ps_set (i := 6) sc_law.nd rfl (Or.inl rfl) (pe_dn T.tables (ok_tables T) hr (by decide) (pa_cons (pe_callTy (k_list (K := K) rfl) (by rfl) T.list (by decide +kernel) (pa_cons (pv 4) pa_nil)) pa_nil)))
      (pss_cons (ps_set (i := 7) sc_law.nd rfl (Or.inl rfl) (pe_lst (pa_cons (pe_cmpR (k_eqD (K := K) rfl (hu64 hr)) (pe_ix (k_ixT (K := K) rfl) (pv 5) pe_int (fun _ _ => rfl)) (pe_ix (k_ixT (K := K) rfl) (pv 6) pe_int (fun _ _ => rfl)) (nomark _)) (pa_cons (pe_cmpR (k_eqD (K := K) rfl (hu64 hr)) (pe_ix (k_ixT (K := K) rfl) (pv 5) pe_int (fun _ _ => rfl)) (pe_ix (k_ixT (K := K) rfl) (pv 6) pe_int (fun _ _ => rfl)) (nomark _)) (pa_cons (pe_cmpR (k_eqD (K := K) rfl (hu64 hr)) (pe_dn T.shape (ok_shape T) hr (by decide) (pa_cons (pe_ix (k_ixT (K := K) rfl) (pv 5) pe_int (fun _ _ => rfl)) pa_nil)) (pe_dn T.shape (ok_shape T) hr (by decide) (pa_cons (pe_ix (k_ixT (K := K) rfl) (pv 6) pe_int (fun _ _ => rfl)) pa_nil)) (nomark _)) pa_nil)))))
      (pss_cons (ps_set (i := 8) sc_law.nd rfl (Or.inl rfl) (pe_dn T.right_hearths (ok_right_hearths T) hr (by decide) (pa_cons (pv 2) pa_nil)))
      (pss_cons (ps_setLc (i := 9) (own := [("_law_some", 12)]) (g := gName 12) (tt := tYes) rfl sc_law.nd rfl rfl (sw_true rfl rfl rfl (by decide +kernel)) (kpi_list (K := K) rfl (pe_lst (pa_cons (pv 8) (pa_cons (pe_dn T.left_hearths (ok_left_hearths T) hr (by decide) (pa_cons (pv 2) pa_nil)) (pa_cons (pe_dn T.both_hearths (ok_both_hearths T) hr (by decide) (pa_cons (pv 2) pa_nil)) pa_nil))))) (blkOk_by (N := ["_law_script", "_law_bag_here", "_law_n", "_law_one", "_law_other", "_law_mine", "_law_yours", "_law_alike", "_law_rights", "_law_answers", "_law_hearth", "_law_far", "_law_some"]) (sc := defScope s_law) (by decide +kernel)) (fun _ _ _ _ _ => (pg_name (i := 12) sc_law.nd rfl (by first | exact Or.inl rfl | exact Or.inr rfl))) (fun _ _ _ _ _ => pts_nil) (fun _ _ _ _ _ => (pe_dn T.law_one_hearth (ok_law_one_hearth T) hr (by decide) (pa_cons (pv 12) (pa_cons (pv 3) (pa_cons (pv 4) pa_nil))))))
      (pss_cons (ps_if (pt_cmpR (k_neD (K := K) rfl (hu64 hr)) (pv 9) (pv 7) (nomark _))
        (pss_one (ps_ret pe_bl))
        pss_nil)
      (pss_cons (ps_set (i := 10) sc_law.nd rfl (Or.inl rfl) (pe_ix (k_ixL (K := K) rfl) (pe_lc (own := [("_law_some", 12)]) (g := gName 12) rfl sc_law.nd (kpi_list (K := K) rfl (pv 8)) (blkOk_by (N := ["_law_script", "_law_bag_here", "_law_n", "_law_one", "_law_other", "_law_mine", "_law_yours", "_law_alike", "_law_rights", "_law_answers", "_law_hearth", "_law_far", "_law_some"]) (sc := defScope s_law) (by decide +kernel)) (fun _ _ _ _ _ => (pg_name (i := 12) sc_law.nd rfl (by first | exact Or.inl rfl | exact Or.inr rfl))) (fun _ _ _ _ _ => (pts_one (pt_cmpR (k_inD (K := K) rfl (hu65 hr)) (pv 3) (pv 12) (by rfl)))) (fun _ _ _ _ _ => (pv 12))) pe_int (fun _ _ => rfl)))
      (pss_cons (ps_set (i := 11) sc_law.nd rfl (Or.inl rfl) (pe_ix (k_ixL (K := K) rfl) (pe_lc (own := [("_law_some", 12)]) (g := gName 12) rfl sc_law.nd (kpi_list (K := K) rfl (pv 8)) (blkOk_by (N := ["_law_script", "_law_bag_here", "_law_n", "_law_one", "_law_other", "_law_mine", "_law_yours", "_law_alike", "_law_rights", "_law_answers", "_law_hearth", "_law_far", "_law_some"]) (sc := defScope s_law) (by decide +kernel)) (fun _ _ _ _ _ => (pg_name (i := 12) sc_law.nd rfl (by first | exact Or.inl rfl | exact Or.inr rfl))) (fun _ _ _ _ _ => (pts_one (pt_cmpR (k_inD (K := K) rfl (hu65 hr)) (pv 4) (pv 12) (by rfl)))) (fun _ _ _ _ _ => (pv 12))) pe_int (fun _ _ => rfl)))
      (pss_cons (ps_if (PW.pt (pw_and (pt_val (pe_ix (k_ixL (K := K) rfl) (pv 7) pe_int (fun _ _ => rfl))) (pw_and1 (pt_not (pt_val (pe_dn T.law_like (ok_law_like T) hr (by decide) (pa_cons (pv 10) (pa_cons (pv 11) (pa_cons (pe_dn T.matched (ok_matched T) hr (by decide) (pa_cons (pv 10) (pa_cons (pv 11) pa_nil))) pa_nil)))))))))
        (pss_one (ps_ret pe_bl))
        pss_nil)
      (pss_one (ps_ret (pe_dn T.law_numbers_right (ok_law_numbers_right T) hr (by decide) (pa_cons (pv 10) pa_nil))))))))))))))))), ?_⟩
  obtain ⟨sa, ns, rfl, hs, q⟩ := h
  -- the bag, the number of things
  refine s_seq ⟨_, rfl, sa, ns, 0, rfl, hs, ?_⟩
  refine ⟨_, 1, rfl, ⟨by decide, by decide⟩, fun p a b hp => ?_⟩
  dsimp only [gName]
  have B1 : BG p H H H (upd H p (.lst [.int a, .int b])) := ⟨Ext.hs (Ex.refl H) (Ex.new hp), ⟨a, b, upd_same⟩, hp, hp⟩
  generalize upd H p (.lst [.int a, .int b]) = Ha at B1
  refine s_seq ⟨by show 6 ≤ sizeLine; decide, fun ql hql => ?_⟩
  have B2 := B1.ext (Ext.hs B1.x.gh (Ex.new (o := .lst [.int 4, .int 3, .int 4, .int 2, .int 3, .int 1]) hql))
  have hql2 : upd Ha ql (.lst [.int 4, .int 3, .int 4, .int 2, .int 3, .int 1]) ql = some (.lst [.int 4, .int 3, .int 4, .int 2, .int 3, .int 1]) := upd_same
  obtain ⟨pa, pb, hpa⟩ := B2.l
  have npq : ql ≠ p := fun z => by
    obtain ⟨_, _, h⟩ := B1.l
    rw [z, h] at hql
    cases hql
  refine ⟨_, rfl, p, pa, pb, 6, rfl, hpa, ⟨by decide, by decide⟩, fun dg a' b' h0 h6 => ?_⟩
  obtain ⟨n, hn1, hn4, hat⟩ : ∃ n : Nat, 1 ≤ n ∧ n ≤ 4 ∧ atI [V.int 4, V.int 3, V.int 4, V.int 2, V.int 3, V.int 1] dg = some (V.int (n : Nat)) := by
    have z : dg = 0 ∨ dg = 1 ∨ dg = 2 ∨ dg = 3 ∨ dg = 4 ∨ dg = 5 := by omega
    rcases z with z | z | z | z | z | z <;> subst z
    · exact ⟨4, by decide, by decide, rfl⟩
    · exact ⟨3, by decide, by decide, rfl⟩
    · exact ⟨4, by decide, by decide, rfl⟩
    · exact ⟨2, by decide, by decide, rfl⟩
    · exact ⟨3, by decide, by decide, rfl⟩
    · exact ⟨1, by decide, by decide, rfl⟩
  have B3 := B2.set a' b'
  have hql3 : upd (upd Ha ql (.lst [.int 4, .int 3, .int 4, .int 2, .int 3, .int 1])) p (.lst [.int a', .int b']) ql = some (.lst [.int 4, .int 3, .int 4, .int 2, .int 3, .int 1]) := by rw [upd_ne npq]; exact hql2
  generalize upd (upd Ha ql (.lst [.int 4, .int 3, .int 4, .int 2, .int 3, .int 1])) p (.lst [.int a', .int b']) = Hb at B3 hql3
  refine ⟨ql, _, dg, _, rfl, rfl, SqL.of hql3, hat, ?_⟩
  dsimp only [gName]
  -- the two orders
  refine s_seq ⟨_, rfl, _, rfl, p, n, H, H, H, rfl, B3, ⟨hn1, hn4⟩, fun v3 one G3 H3 ho1 eg3 B4 r3 => ?_⟩
  dsimp only [gName]
  refine s_seq ⟨_, rfl, sa, ns, 1, rfl, sql_ex B4.x.h hs, ?_⟩
  refine ⟨_, 2, rfl, ⟨by decide, by decide⟩, fun p2 a2 b2 hp2 => ?_⟩
  have B5 : BG p2 H H G3 (upd H3 p2 (.lst [.int a2, .int b2])) := ⟨B4.x.trans (Ext.hs B4.x.gh (Ex.new hp2)), ⟨a2, b2, upd_same⟩, fresh_back B4.x.gh hp2, fresh_back B4.x.h hp2⟩
  generalize upd H3 p2 (.lst [.int a2, .int b2]) = Hd at B5
  refine ⟨_, rfl, p2, n, H, H, G3, rfl, B5, ⟨hn1, hn4⟩, fun v5 other G5 H5 ho2 eg5 B6 r5 => ?_⟩
  dsimp only [gName]
  have S5 : Slots H [.any, .any, .imm (dI n), .imm (dO one), .imm (dO other), .any, .any, .any, .any, .any, .any, .any, .any] [some (.ref sa), some (.ref p), some (.int n), some v3, some v5, none, none, none, none, none, none, none, none] G5 H5 :=
    (((anyS [some (.ref sa), some (.ref p), some (.int n), some v3, some v5, none, none, none, none, none, none, none, none]).setImm (i := 2) (.int _)).setImm (i := 3) (r3.mono eg5)).setImm (i := 4) r5
  -- the facts
  have f1 := law1 n (by omega) hn1
  have f2 := law2 n (by omega) hn1
  have f3 := law3 n (by omega) hn1
  rw [List.all_eq_true] at f1
  have f1a := f1 one ho1
  have f1b := f1 other ho2
  unfold lawOk1 at f1a f1b
  simp only [Bool.and_eq_true, decide_eq_true_eq] at f1a f1b
  obtain ⟨⟨⟨⟨a1, a2⟩, a3⟩, a4⟩, a5⟩ := f1a
  obtain ⟨⟨⟨⟨b1, b2⟩, b3⟩, b4⟩, b5⟩ := f1b
  unfold lawOk2 at f2
  obtain ⟨f2a, f2b⟩ := Bool.and_eq_true_iff.mp f2
  have f2c := of_decide_eq_true (List.all_eq_true.mp (List.all_eq_true.mp f2b one ho1) other ho2)
  have lens : (rightsT n).length ≤ 100 ∧ (leftsN n).length ≤ 100 ∧ (bothN n).length ≤ 100 := by
    have z := List.all_eq_true.mp f2a
    exact ⟨of_decide_eq_true (z _ (by simp)), of_decide_eq_true (z _ (by simp)), of_decide_eq_true (z _ (by simp))⟩
  obtain ⟨len1, len2, len3⟩ := lens
  unfold lawOk3 at f3
  obtain ⟨f3a, f3b⟩ := Bool.and_eq_true_iff.mp f3
  have f3c := List.all_eq_true.mp f3a _ a3
  have f3d := List.all_eq_true.mp (List.all_eq_true.mp f3b _ a3) _ b3
  unfold pairH at f3d
  rw [← a5, ← b5] at f3d
  have er := rights_eq n (by omega) hn1
  refine run_does ?_ B6.x S5 fun v G' H' x e' r => by
    obtain rfl := r.bl_inv
    exact q H'
  refine does_seq (does_asg (dv_call (av_cons (nl_listT (dv_var rfl)).dv av_nil) ⟨one, rfl, a1, rfl⟩)) ?_
  refine does_seq (does_asg (dv_call (av_cons (nl_listT (dv_var rfl)).dv av_nil) ⟨other, rfl, b1, rfl⟩)) ?_
  refine does_seq (ρ' := [.any, .any, .imm (dI n), .imm (dO one), .imm (dO other), .imm (dTT (tablesM one)), .imm (dTT (tablesM other)), .imm (dL PyData.bool (alikeM one other)), .any, .any, .any, .any, .any]) ((does_asg (nl_lst (av_cons (dv_eqD (dv_ixT (n := 0) (dv_var rfl) dv_int.r rfl rfl).r (dv_ixT (n := 0) (dv_var rfl) dv_int.r rfl rfl).r (encLL.shaped (by decide) _) (encLL.shaped (by decide) _))
    (av_cons (dv_eqD (dv_ixT (n := 1) (dv_var rfl) dv_int.r rfl rfl).r (dv_ixT (n := 1) (dv_var rfl) dv_int.r rfl rfl).r (encLL.shaped (by decide) _) (encLL.shaped (by decide) _))
    (av_cons (dv_eqD (dv_call (av_cons (dv_ixT (n := 0) (dv_var rfl) dv_int.r rfl rfl) av_nil) ⟨_, rfl, a2, rfl⟩).r (dv_call (av_cons (dv_ixT (n := 0) (dv_var rfl) dv_int.r rfl rfl) av_nil) ⟨_, rfl, b2, rfl⟩).r (encLs.shaped (by decide) _) (encLs.shaped (by decide) _)) av_nil))) (by show 3 ≤ 100000; decide)).dv).nx ?_) ?_
  · rw [encLL.eqv, encLL.eqv, encLs.eqv]
    rfl
  refine does_seq (does_asg ((dv_call (R := RRights) (av_cons (dv_var rfl) av_nil) ⟨n, rfl, ⟨hn1, hn4⟩, rfl⟩).is (congrArg dOss er))) ?_
  refine does_seq (does_asg (NL.dv (ds := (alikeM one other).map PyData.bool) ((nl_mapX (fe := dOss) (xs := [rightsT n, leftsN n, bothN n]) (nl_lst (av_cons (dv_var rfl) (av_cons (dv_call (R := RLefts) (av_cons (dv_var rfl) av_nil) ⟨n, rfl, ⟨hn1, hn4⟩, rfl⟩) (av_cons (dv_call (R := RBoth) (av_cons (dv_var rfl) av_nil) ⟨n, rfl, ⟨hn1, hn4⟩, rfl⟩) av_nil))) (by show 3 ≤ 100000; decide)).dv (fun f => .bool (oneH f one other)) (by show 3 ≤ 40000; decide) fun f hf => ?_).is ?_))) ?_
  · have lf : f.length ≤ 100 := of_decide_eq_true (List.all_eq_true.mp f2a f hf)
    exact dv_call (av_cons (dv_var rfl) (av_cons (dv_var rfl) (av_cons (dv_var rfl) av_nil))) ⟨(f, one, other), rfl, lf, rfl⟩
  · rw [← f2c]
    unfold ansM
    rw [List.map_map]
    rfl
  refine does_seq (does_ifF ((tv_cmp (dv_neD (dv_var rfl).r (dv_var rfl).r (encB.list.shaped (by decide) (alikeM one other)) (encB.list.shaped (by decide) (alikeM one other))).r).is ?_) does_next) ?_
  · rw [encB.list.eqv, decide_eq_true rfl]
    rfl
  refine does_seq (does_asg (dv_ixL (n := 0) (d := dOs (headOf n one)) (nl_filX (fe := dOs) (xs := rightsT n) (dv_var rfl) (fun h => inO one h) (by omega) (by show 12 < 13; decide) fun h hh => ?_).dv dv_int.r rfl (head_in a4))) ?_
  · refine tv_cmp ((dv_inD (ds := h.map dO) (dv_var rfl).r (dv_var rfl).r (encO.shaped (by decide) one) (encOs.shaped (by decide) h)).r.is ?_)
    rw [any_enc encO]
    rfl
  refine does_seq (does_asg (dv_ixL (n := 0) (d := dOs (headOf n other)) (nl_filX (fe := dOs) (xs := rightsT n) (dv_var rfl) (fun h => inO other h) (by omega) (by show 12 < 13; decide) fun h hh => ?_).dv dv_int.r rfl (head_in b4))) ?_
  · refine tv_cmp ((dv_inD (ds := h.map dO) (dv_var rfl).r (dv_var rfl).r (encO.shaped (by decide) other) (encOs.shaped (by decide) h)).r.is ?_)
    rw [any_enc encO]
    rfl
  refine does_seq (does_ifF (TV.is (b := decide (shM one = shM other) && !(decide (shM one = shM other))) ?_ ?_) does_next) ?_
  · by_cases z : shM one = shM other
    · rw [if_pos z] at f3d
      simp only [Bool.and_eq_true] at f3d
      obtain ⟨⟨g1, g2⟩, g3⟩ := f3d
      refine tv_and (tv_val (dv_ixL (n := 2) (dv_var rfl) dv_int.r rfl rfl).r) fun _ => tv_not ((tv_val (dv_call (av_cons (dv_var rfl) (av_cons (dv_var rfl) (av_cons (dv_call (av_cons (dv_var rfl) (av_cons (dv_var rfl) av_nil)) ⟨(headOf n one, headOf n other), rfl, g1, rfl⟩) av_nil))) ⟨(headOf n one, headOf n other, matM (headOf n one) (headOf n other)), rfl, g2, rfl⟩).r).is ?_)
      show likeM _ _ _ = _
      rw [g3, decide_eq_true z]
    · rw [decide_eq_false z]
      refine tv_and (b := false) ((tv_val (dv_ixL (n := 2) (dv_var rfl) dv_int.r rfl rfl).r).is ?_) fun z => nomatch z
      exact decide_eq_false z
  · cases decide (shM one = shM other) <;> rfl
  exact does_ret (dv_call (av_cons (dv_var rfl) av_nil) ⟨headOf n one, rfl, f3c, rfl⟩)
end
end U
namespace U
open PySem L2 Evl
/-! ### what the top has written -/
def DnP (K : PySem.W.Frag) (x : Str) (st : Stmt) : Prop := ∃ (f : Addr) (oc : Value) (od : Option Addr) (kV dc pm : Value) (an : Option Addr) (cd ct : Value) (sl : Array (Option Value)), PySem.W.nsIn K mainGlobals x = some (some (.ref f)) ∧
  K.lookup f = some ⟨oc, od, .func (PySem.W.fnOf x x (defArgs st) (defBody st) (defScope st) .none kV dc pm an cd ct), sl⟩ ∧ PySem.W.codeIn K cd x = true ∧ PySem.W.keepIn K (.ref f) = true
def DmP (K : PySem.W.Frag) (C : Addr) (x qual : Str) (st : Stmt) : Prop := ∃ (f : Addr) (oc : Value) (od : Option Addr) (kV dc pm : Value) (an : Option Addr) (cd ct : Value) (sl : Array (Option Value)), PySem.W.findIn K (.ref C) x = some (some (.ref f)) ∧ PySem.W.isFn K (.ref f) = true ∧
  K.lookup f = some ⟨oc, od, .func (PySem.W.fnOf x qual (defArgs st) (defBody st) (defScope st) .none kV dc pm an cd ct), sl⟩ ∧ PySem.W.codeIn K cd qual = true ∧ PySem.W.keepIn K (.ref f) = true
theorem DnP.mk {K : PySem.W.Frag} {x : Str} {st : Stmt} {f : Addr} {oc : Value} {od : Option Addr} {kV dc pm : Value} {an : Option Addr} {cd ct : Value} {sl : Array (Option Value)} (a : PySem.W.nsIn K mainGlobals x = some (some (.ref f)))
    (l : K.lookup f = some ⟨oc, od, .func (PySem.W.fnOf x x (defArgs st) (defBody st) (defScope st) .none kV dc pm an cd ct), sl⟩) (c : PySem.W.codeIn K cd x = true) (k : PySem.W.keepIn K (.ref f) = true) : DnP K x st := ⟨f, oc, od, kV, dc, pm, an, cd, ct, sl, a, l, c, k⟩
theorem DmP.mk {K : PySem.W.Frag} {C : Addr} {x qual : Str} {st : Stmt} {f : Addr} {oc : Value} {od : Option Addr} {kV dc pm : Value} {an : Option Addr} {cd ct : Value} {sl : Array (Option Value)} (a : PySem.W.findIn K (.ref C) x = some (some (.ref f))) (i : PySem.W.isFn K (.ref f) = true)
    (l : K.lookup f = some ⟨oc, od, .func (PySem.W.fnOf x qual (defArgs st) (defBody st) (defScope st) .none kV dc pm an cd ct), sl⟩) (c : PySem.W.codeIn K cd qual = true) (k : PySem.W.keepIn K (.ref f) = true) : DmP K C x qual st := ⟨f, oc, od, kV, dc, pm, an, cd, ct, sl, a, i, l, c, k⟩
theorem con_mk {K : PySem.W.Frag} {x : Str} {i : Int} {t : Tok} (a : PySem.W.nsIn K mainGlobals x = some (some (.int i t))) : ∃ t, PySem.W.nsIn K mainGlobals x = some (some (.int i t)) := ⟨t, a⟩
structure ClP (K : PySem.W.Frag) (C : Addr) : Prop where
  g : PySem.W.nsIn K mainGlobals "Keeping" = some (some (.ref C))
  pg : PySem.W.plainGet K C Str.empty = true
  hd : PySem.W.hasDictIn K C = true
  po : PySem.W.plainOver K C = true
  sa : PySem.W.findIn K (.ref C) "__setattr__" = some (some (.builtin "object.__setattr__"))
  nk : PySem.W.findIn K (.ref C) "known" = some none
  mks : PySem.W.makesIn K C = true
  kc : PySem.W.keepIn K (.ref C) = true
  K_init : DmP K C "__init__" "Keeping.__init__" s_K_init
  K_of : DmP K C "of" "Keeping.of" s_K_of
  K_found : DmP K C "found" "Keeping.found" s_K_found
  K_polynomial : DmP K C "polynomial" "Keeping.polynomial" s_K_polynomial
  K_lead : DmP K C "lead" "Keeping.lead" s_K_lead
  K_tie : DmP K C "tie" "Keeping.tie" s_K_tie
theorem cl_mk {K : PySem.W.Frag} {C : Addr} (c : ClP K C) : ∃ C, ClP K C := ⟨C, c⟩
structure AllP (K : PySem.W.Frag) : Prop where
  cl : ∃ C, ClP K C
  is_whole : DnP K "is_whole" s_is_whole
  plain_order : DnP K "plain_order" s_plain_order
  back : DnP K "back" s_back
  places_changed : DnP K "places_changed" s_places_changed
  is_exchange : DnP K "is_exchange" s_is_exchange
  exchanged : DnP K "exchanged" s_exchanged
  all_orders : DnP K "all_orders" s_all_orders
  look_few : DnP K "look_few" s_look_few
  is_fall : DnP K "is_fall" s_is_fall
  put : DnP K "put" s_put
  without_noughts : DnP K "without_noughts" s_without_noughts
  by_plain_kept : DnP K "by_plain_kept" s_by_plain_kept
  lead : DnP K "lead" s_lead
  look_at : DnP K "look_at" s_look_at
  has_other_fall : DnP K "has_other_fall" s_has_other_fall
  led_at_once : DnP K "led_at_once" s_led_at_once
  led_over : DnP K "led_over" s_led_over
  right_hearths : DnP K "right_hearths" s_right_hearths
  left_hearths : DnP K "left_hearths" s_left_hearths
  both_hearths : DnP K "both_hearths" s_both_hearths
  place_for : DnP K "place_for" s_place_for
  put_in : DnP K "put_in" s_put_in
  shape : DnP K "shape" s_shape
  new_row : DnP K "new_row" s_new_row
  tables : DnP K "tables" s_tables
  number_at : DnP K "number_at" s_number_at
  number_tables : DnP K "number_tables" s_number_tables
  first_and_second : DnP K "first_and_second" s_first_and_second
  matched : DnP K "matched" s_matched
  law_cell : DnP K "_law_cell" s_law_cell
  law_bag : DnP K "_law_bag" s_law_bag
  law_mixed : DnP K "_law_mixed" s_law_mixed
  law_digit : DnP K "_law_digit" s_law_digit
  law_order : DnP K "_law_order" s_law_order
  law_one_hearth : DnP K "_law_one_hearth" s_law_one_hearth
  law_like : DnP K "_law_like" s_law_like
  law_numbers_right : DnP K "_law_numbers_right" s_law_numbers_right
  law : DnP K "law" s_law
  MOST_THINGS_kept : ∃ t, PySem.W.nsIn K mainGlobals "MOST_THINGS_kept" = some (some (.int 5 t))
  MOST_THINGS_hearths : ∃ t, PySem.W.nsIn K mainGlobals "MOST_THINGS_hearths" = some (some (.int 4 t))
  len : PySem.W.nsIn K mainGlobals "len" = some none
  range : PySem.W.nsIn K mainGlobals "range" = some none
  any : PySem.W.nsIn K mainGlobals "any" = some none
  isinstance : PySem.W.nsIn K mainGlobals "isinstance" = some none
  int : PySem.W.nsIn K mainGlobals "int" = some none
  bool : PySem.W.nsIn K mainGlobals "bool" = some none
  tuple : PySem.W.nsIn K mainGlobals "tuple" = some none
  list : PySem.W.nsIn K mainGlobals "list" = some none
  enumerate : PySem.W.nsIn K mainGlobals "enumerate" = some none
  sorted : PySem.W.nsIn K mainGlobals "sorted" = some none
  dict : PySem.W.nsIn K mainGlobals "dict" = some none
  max : PySem.W.nsIn K mainGlobals "max" = some none
  abs : PySem.W.nsIn K mainGlobals "abs" = some none
section
variable {K : PySem.W.Frag} {h : Heap} {mg : Str → Option Value} {x qual : Str} {st : Stmt} {ps : List Str} {C : Addr}
abbrev BindP (x qual : Str) (st : Stmt) (ps : List Str) : Prop := ∀ (kV doc pm : Value) (an : Option Addr) (cdv ct : Value) (us : List Value), us.length = ps.length → bindArgs (PySem.W.fnOf x qual (defArgs st) (defBody st) (defScope st) .none kV doc pm an cdv ct) ⟨us, []⟩ = pure (ps.zip us)
theorem dn_of (X : K.In h) (G : h.Ns mainGlobals mg) (d : DnP K x st) (b : BindP x x st ps) : Nonempty (Dn K mg x st ps) := by
  obtain ⟨f, oc, od, kV, dc, pm, an, cd, ct, sl, a, l, c, k⟩ := d
  exact ⟨⟨f, _, fun_mk l c k, (fun_mk l c k).binds b, PySem.W.mg_of X G a⟩⟩
theorem dm_of (d : DmP K C x qual st) (b : BindP x qual st ps) : Nonempty (Dm K C x qual st ps) := by
  obtain ⟨f, oc, od, kV, dc, pm, an, cd, ct, sl, a, i, l, c, k⟩ := d
  exact ⟨⟨f, _, fun_mk l c k, (fun_mk l c k).binds b, ⟨a, i, k⟩⟩⟩
theorem txt_of (X : K.In h) (G : h.Ns mainGlobals mg) (A : AllP K) : Nonempty (Txt K mg) := by
  obtain ⟨C, c⟩ := A.cl
  obtain ⟨d_K_init⟩ := dm_of (ps := ["self"]) c.K_init (fun _ _ _ _ _ _ us hl => match us, hl with | [_], _ => rfl)
  obtain ⟨d_K_of⟩ := dm_of (ps := ["self", "order"]) c.K_of (fun _ _ _ _ _ _ us hl => match us, hl with | [_, _], _ => rfl)
  obtain ⟨d_K_found⟩ := dm_of (ps := ["self", "order"]) c.K_found (fun _ _ _ _ _ _ us hl => match us, hl with | [_, _], _ => rfl)
  obtain ⟨d_K_polynomial⟩ := dm_of (ps := ["self", "one", "other"]) c.K_polynomial (fun _ _ _ _ _ _ us hl => match us, hl with | [_, _, _], _ => rfl)
  obtain ⟨d_K_lead⟩ := dm_of (ps := ["self", "one", "other"]) c.K_lead (fun _ _ _ _ _ _ us hl => match us, hl with | [_, _, _], _ => rfl)
  obtain ⟨d_K_tie⟩ := dm_of (ps := ["self", "one", "other"]) c.K_tie (fun _ _ _ _ _ _ us hl => match us, hl with | [_, _, _], _ => rfl)
  obtain ⟨d_is_whole⟩ := dn_of (ps := ["thing"]) X G A.is_whole (fun _ _ _ _ _ _ us hl => match us, hl with | [_], _ => rfl)
  obtain ⟨d_plain_order⟩ := dn_of (ps := ["n"]) X G A.plain_order (fun _ _ _ _ _ _ us hl => match us, hl with | [_], _ => rfl)
  obtain ⟨d_back⟩ := dn_of (ps := ["order"]) X G A.back (fun _ _ _ _ _ _ us hl => match us, hl with | [_], _ => rfl)
  obtain ⟨d_places_changed⟩ := dn_of (ps := ["order", "i", "j"]) X G A.places_changed (fun _ _ _ _ _ _ us hl => match us, hl with | [_, _, _], _ => rfl)
  obtain ⟨d_is_exchange⟩ := dn_of (ps := ["k", "n"]) X G A.is_exchange (fun _ _ _ _ _ _ us hl => match us, hl with | [_, _], _ => rfl)
  obtain ⟨d_exchanged⟩ := dn_of (ps := ["order", "k"]) X G A.exchanged (fun _ _ _ _ _ _ us hl => match us, hl with | [_, _], _ => rfl)
  obtain ⟨d_all_orders⟩ := dn_of (ps := ["n"]) X G A.all_orders (fun _ _ _ _ _ _ us hl => match us, hl with | [_], _ => rfl)
  obtain ⟨d_look_few⟩ := dn_of (ps := ["order"]) X G A.look_few (fun _ _ _ _ _ _ us hl => match us, hl with | [_], _ => rfl)
  obtain ⟨d_is_fall⟩ := dn_of (ps := ["order", "k"]) X G A.is_fall (fun _ _ _ _ _ _ us hl => match us, hl with | [_, _], _ => rfl)
  obtain ⟨d_put⟩ := dn_of (ps := ["found", "order", "poly", "shift", "many"]) X G A.put (fun _ _ _ _ _ _ us hl => match us, hl with | [_, _, _, _, _], _ => rfl)
  obtain ⟨d_without_noughts⟩ := dn_of (ps := ["found"]) X G A.without_noughts (fun _ _ _ _ _ _ us hl => match us, hl with | [_], _ => rfl)
  obtain ⟨d_by_plain_kept⟩ := dn_of (ps := ["some", "k"]) X G A.by_plain_kept (fun _ _ _ _ _ _ us hl => match us, hl with | [_, _], _ => rfl)
  obtain ⟨d_lead⟩ := dn_of (ps := ["one", "other"]) X G A.lead (fun _ _ _ _ _ _ us hl => match us, hl with | [_, _], _ => rfl)
  obtain ⟨d_look_at⟩ := dn_of (ps := ["n"]) X G A.look_at (fun _ _ _ _ _ _ us hl => match us, hl with | [_], _ => rfl)
  obtain ⟨d_has_other_fall⟩ := dn_of (ps := ["one", "other"]) X G A.has_other_fall (fun _ _ _ _ _ _ us hl => match us, hl with | [_, _], _ => rfl)
  obtain ⟨d_led_at_once⟩ := dn_of (ps := ["keeping", "one", "orders"]) X G A.led_at_once (fun _ _ _ _ _ _ us hl => match us, hl with | [_, _, _], _ => rfl)
  obtain ⟨d_led_over⟩ := dn_of (ps := ["ties", "one"]) X G A.led_over (fun _ _ _ _ _ _ us hl => match us, hl with | [_, _], _ => rfl)
  obtain ⟨d_right_hearths⟩ := dn_of (ps := ["n"]) X G A.right_hearths (fun _ _ _ _ _ _ us hl => match us, hl with | [_], _ => rfl)
  obtain ⟨d_left_hearths⟩ := dn_of (ps := ["n"]) X G A.left_hearths (fun _ _ _ _ _ _ us hl => match us, hl with | [_], _ => rfl)
  obtain ⟨d_both_hearths⟩ := dn_of (ps := ["n"]) X G A.both_hearths (fun _ _ _ _ _ _ us hl => match us, hl with | [_], _ => rfl)
  obtain ⟨d_place_for⟩ := dn_of (ps := ["row", "letter"]) X G A.place_for (fun _ _ _ _ _ _ us hl => match us, hl with | [_, _], _ => rfl)
  obtain ⟨d_put_in⟩ := dn_of (ps := ["table", "letter"]) X G A.put_in (fun _ _ _ _ _ _ us hl => match us, hl with | [_, _], _ => rfl)
  obtain ⟨d_shape⟩ := dn_of (ps := ["table"]) X G A.shape (fun _ _ _ _ _ _ us hl => match us, hl with | [_], _ => rfl)
  obtain ⟨d_new_row⟩ := dn_of (ps := ["less", "more"]) X G A.new_row (fun _ _ _ _ _ _ us hl => match us, hl with | [_, _], _ => rfl)
  obtain ⟨d_tables⟩ := dn_of (ps := ["row"]) X G A.tables (fun _ _ _ _ _ _ us hl => match us, hl with | [_], _ => rfl)
  obtain ⟨d_number_at⟩ := dn_of (ps := ["keeping", "k", "one", "other"]) X G A.number_at (fun _ _ _ _ _ _ us hl => match us, hl with | [_, _, _, _], _ => rfl)
  obtain ⟨d_number_tables⟩ := dn_of (ps := ["hearth"]) X G A.number_tables (fun _ _ _ _ _ _ us hl => match us, hl with | [_], _ => rfl)
  obtain ⟨d_first_and_second⟩ := dn_of (ps := ["order"]) X G A.first_and_second (fun _ _ _ _ _ _ us hl => match us, hl with | [_], _ => rfl)
  obtain ⟨d_matched⟩ := dn_of (ps := ["one", "other"]) X G A.matched (fun _ _ _ _ _ _ us hl => match us, hl with | [_, _], _ => rfl)
  obtain ⟨d_law_cell⟩ := dn_of (ps := ["_law_script", "_law_k"]) X G A.law_cell (fun _ _ _ _ _ _ us hl => match us, hl with | [_, _], _ => rfl)
  obtain ⟨d_law_bag⟩ := dn_of (ps := ["_law_cell_here", "_law_place"]) X G A.law_bag (fun _ _ _ _ _ _ us hl => match us, hl with | [_, _], _ => rfl)
  obtain ⟨d_law_mixed⟩ := dn_of (ps := ["_law_bag_here"]) X G A.law_mixed (fun _ _ _ _ _ _ us hl => match us, hl with | [_], _ => rfl)
  obtain ⟨d_law_digit⟩ := dn_of (ps := ["_law_bag_here", "_law_many"]) X G A.law_digit (fun _ _ _ _ _ _ us hl => match us, hl with | [_, _], _ => rfl)
  obtain ⟨d_law_order⟩ := dn_of (ps := ["_law_bag_here", "_law_n"]) X G A.law_order (fun _ _ _ _ _ _ us hl => match us, hl with | [_, _], _ => rfl)
  obtain ⟨d_law_one_hearth⟩ := dn_of (ps := ["_law_found", "_law_one", "_law_other"]) X G A.law_one_hearth (fun _ _ _ _ _ _ us hl => match us, hl with | [_, _, _], _ => rfl)
  obtain ⟨d_law_like⟩ := dn_of (ps := ["_law_one", "_law_other", "_law_pairs"]) X G A.law_like (fun _ _ _ _ _ _ us hl => match us, hl with | [_, _, _], _ => rfl)
  obtain ⟨d_law_numbers_right⟩ := dn_of (ps := ["_law_hearth"]) X G A.law_numbers_right (fun _ _ _ _ _ _ us hl => match us, hl with | [_], _ => rfl)
  obtain ⟨d_law⟩ := dn_of (ps := ["_law_script"]) X G A.law (fun _ _ _ _ _ _ us hl => match us, hl with | [_], _ => rfl)
  obtain ⟨t_MOST_THINGS_kept, e_MOST_THINGS_kept⟩ := A.MOST_THINGS_kept
  obtain ⟨t_MOST_THINGS_hearths, e_MOST_THINGS_hearths⟩ := A.MOST_THINGS_hearths
  exact ⟨{
    is_whole := d_is_whole
    plain_order := d_plain_order
    back := d_back
    places_changed := d_places_changed
    is_exchange := d_is_exchange
    exchanged := d_exchanged
    all_orders := d_all_orders
    look_few := d_look_few
    is_fall := d_is_fall
    put := d_put
    without_noughts := d_without_noughts
    by_plain_kept := d_by_plain_kept
    lead := d_lead
    look_at := d_look_at
    has_other_fall := d_has_other_fall
    led_at_once := d_led_at_once
    led_over := d_led_over
    right_hearths := d_right_hearths
    left_hearths := d_left_hearths
    both_hearths := d_both_hearths
    place_for := d_place_for
    put_in := d_put_in
    shape := d_shape
    new_row := d_new_row
    tables := d_tables
    number_at := d_number_at
    number_tables := d_number_tables
    first_and_second := d_first_and_second
    matched := d_matched
    law_cell := d_law_cell
    law_bag := d_law_bag
    law_mixed := d_law_mixed
    law_digit := d_law_digit
    law_order := d_law_order
    law_one_hearth := d_law_one_hearth
    law_like := d_law_like
    law_numbers_right := d_law_numbers_right
    law := d_law
    C := C, clK := ⟨c.pg, c.hd, c.po, c.sa⟩, nK := c.nk, gC := PySem.W.mg_of X G c.g
    K_init := d_K_init
    K_of := d_K_of
    K_found := d_K_found
    K_polynomial := d_K_polynomial
    K_lead := d_K_lead
    K_tie := d_K_tie
    mkK := ⟨c.mks, d_K_init.m.at_, d_K_init.m.fn, c.kc⟩
    t_MOST_THINGS_kept := t_MOST_THINGS_kept, MOST_THINGS_kept := PySem.W.mg_of X G e_MOST_THINGS_kept
    t_MOST_THINGS_hearths := t_MOST_THINGS_hearths, MOST_THINGS_hearths := PySem.W.mg_of X G e_MOST_THINGS_hearths
    len := PySem.W.mg_none_of X G A.len
    range := PySem.W.mg_none_of X G A.range
    any := PySem.W.mg_none_of X G A.any
    isinstance := PySem.W.mg_none_of X G A.isinstance
    int := PySem.W.mg_none_of X G A.int
    bool := PySem.W.mg_none_of X G A.bool
    tuple := PySem.W.mg_none_of X G A.tuple
    list := PySem.W.mg_none_of X G A.list
    enumerate := PySem.W.mg_none_of X G A.enumerate
    sorted := PySem.W.mg_none_of X G A.sorted
    dict := PySem.W.mg_none_of X G A.dict
    max := PySem.W.mg_none_of X G A.max
    abs := PySem.W.mg_none_of X G A.abs }⟩
end
theorem end_of {P : Program} {w : World} {K : PySem.W.Frag} {h : Heap} {mg : Str → Option Value} {fa : Addr} (X : K.In h) (G : h.Ns mainGlobals mg) (hmg : mg "law" = some (.ref fa)) (A : AllP K) :
    ∃ fd : FuncData, (∀ (s : Shared) (u : Value), BindsTo s fd ⟨[u], []⟩ [("_law_script", u)]) ∧ ∀ base : Heap, K.In base → base.Ns mainGlobals mg → FnOk P w K mg base CX0 26 fa fd ["_law_script"] (spEnd K) := by
  obtain ⟨T⟩ := txt_of X G A
  have e : fa = T.law.f := by
    have z := hmg.symm.trans T.law.g
    cases z
    rfl
  subst e
  refine ⟨T.law.fd, fun s u => ?_, fun base _ _ => ok_law T⟩
  obtain ⟨oc, od, kV, dc, pm, an, cdv, ct, osl, ef, _, _⟩ := T.law.F.ex
  rw [ef]
  exact .of_eq rfl
theorem walk {l : PySem.W.OpenLaw} {q : Program} {loose : List Str} {XP : (Str → Option Value) → Heap → Prop} {YP : World → Heap → Prop} {d : DefRec} {K : Params → PySem.W.Frag} (hn : l.most = some 63) (hdf : d.params.defaults = []) (hnm : d.name = "law")
    (hY : ∀ (w : World) (h : Heap), YP w h → (K w.params).In h) (F : ∀ w : World, AllP (K w.params)) : PySem.W.WalkO q loose XP YP l.row.toRowW d [] (fun f vs => PySem.call f vs) :=
  L2.walk_of (n := 63) (k := 26) (x := "_law_script") (CX := fun _ => CX0) (sp := fun w => spEnd (K w.params)) hn (by decide) hdf ⟨rfl, by decide, by decide⟩ hY (fun w mg fa h X G hmg => end_of X G (by rw [hnm] at hmg; exact hmg) (F w))
    (fun _ _ a ns _ _ hS => ⟨a, ns, rfl, hS, fun _ => rfl⟩) fun _ _ _ _ _ z => z
end U
open PySem PySem.W PyProof.Rows in
set_option maxRecDepth 100000 in
set_option maxHeartbeats 0 in
theorem PySem.Challenge.cw_undercells_k96_whole_hearths_by_tables_holds : PySem.Challenge.rw_undercells_k96_whole_hearths_by_tables.Holds := by
  w_on; o_law; k_head; (case hw => w_witness2)
  k_fill
  refine U.walk (l := PySem.Challenge.rw_undercells_k96_whole_hearths_by_tables) rfl rfl rfl (fun w h Y => PySem.W.kIn_of Y) ?F
  case F =>
    intro w
    refine' ⟨?f_cl, ?f_is_whole, ?f_plain_order, ?f_back, ?f_places_changed, ?f_is_exchange, ?f_exchanged, ?f_all_orders, ?f_look_few, ?f_is_fall, ?f_put, ?f_without_noughts, ?f_by_plain_kept, ?f_lead, ?f_look_at, ?f_has_other_fall, ?f_led_at_once, ?f_led_over, ?f_right_hearths, ?f_left_hearths, ?f_both_hearths, ?f_place_for, ?f_put_in, ?f_shape, ?f_new_row, ?f_tables, ?f_number_at, ?f_number_tables, ?f_first_and_second, ?f_matched, ?f_law_cell, ?f_law_bag, ?f_law_mixed, ?f_law_digit, ?f_law_order, ?f_law_one_hearth, ?f_law_like, ?f_law_numbers_right, ?f_law, ?f_MOST_THINGS_kept, ?f_MOST_THINGS_hearths, ?f_len, ?f_range, ?f_any, ?f_isinstance, ?f_int, ?f_bool, ?f_tuple, ?f_list, ?f_enumerate, ?f_sorted, ?f_dict, ?f_max, ?f_abs⟩
    (case f_cl => (refine' U.cl_mk ?x; (case x => (refine' ⟨?g, ?pg, ?hd, ?po, ?sa, ?nk, ?mks, ?kc, ?K_init, ?K_of, ?K_found, ?K_polynomial, ?K_lead, ?K_tie⟩; (case g => k_is); (case pg => k_is); (case hd => k_is); (case po => k_is); (case sa => k_is); (case nk => k_is); (case mks => k_is); (case kc => k_is); (case K_init => (refine' U.DmP.mk ?a ?i ?l ?c ?k; (case a => k_is); (case i => k_is); (case l => k_is); (case c => k_is); (case k => k_is))); (case K_of => (refine' U.DmP.mk ?a ?i ?l ?c ?k; (case a => k_is); (case i => k_is); (case l => k_is); (case c => k_is); (case k => k_is))); (case K_found => (refine' U.DmP.mk ?a ?i ?l ?c ?k; (case a => k_is); (case i => k_is); (case l => k_is); (case c => k_is); (case k => k_is))); (case K_polynomial => (refine' U.DmP.mk ?a ?i ?l ?c ?k; (case a => k_is); (case i => k_is); (case l => k_is); (case c => k_is); (case k => k_is))); (case K_lead => (refine' U.DmP.mk ?a ?i ?l ?c ?k; (case a => k_is); (case i => k_is); (case l => k_is); (case c => k_is); (case k => k_is))); (case K_tie => (refine' U.DmP.mk ?a ?i ?l ?c ?k; (case a => k_is); (case i => k_is); (case l => k_is); (case c => k_is); (case k => k_is)))))))
    (case f_is_whole => (refine' U.DnP.mk ?a ?l ?c ?k; (case a => k_is); (case l => k_is); (case c => k_is); (case k => k_is)))
    (case f_plain_order => (refine' U.DnP.mk ?a ?l ?c ?k; (case a => k_is); (case l => k_is); (case c => k_is); (case k => k_is)))
    (case f_back => (refine' U.DnP.mk ?a ?l ?c ?k; (case a => k_is); (case l => k_is); (case c => k_is); (case k => k_is)))
    (case f_places_changed => (refine' U.DnP.mk ?a ?l ?c ?k; (case a => k_is); (case l => k_is); (case c => k_is); (case k => k_is)))
    (case f_is_exchange => (refine' U.DnP.mk ?a ?l ?c ?k; (case a => k_is); (case l => k_is); (case c => k_is); (case k => k_is)))
    (case f_exchanged => (refine' U.DnP.mk ?a ?l ?c ?k; (case a => k_is); (case l => k_is); (case c => k_is); (case k => k_is)))
    (case f_all_orders => (refine' U.DnP.mk ?a ?l ?c ?k; (case a => k_is); (case l => k_is); (case c => k_is); (case k => k_is)))
    (case f_look_few => (refine' U.DnP.mk ?a ?l ?c ?k; (case a => k_is); (case l => k_is); (case c => k_is); (case k => k_is)))
    (case f_is_fall => (refine' U.DnP.mk ?a ?l ?c ?k; (case a => k_is); (case l => k_is); (case c => k_is); (case k => k_is)))
    (case f_put => (refine' U.DnP.mk ?a ?l ?c ?k; (case a => k_is); (case l => k_is); (case c => k_is); (case k => k_is)))
    (case f_without_noughts => (refine' U.DnP.mk ?a ?l ?c ?k; (case a => k_is); (case l => k_is); (case c => k_is); (case k => k_is)))
    (case f_by_plain_kept => (refine' U.DnP.mk ?a ?l ?c ?k; (case a => k_is); (case l => k_is); (case c => k_is); (case k => k_is)))
    (case f_lead => (refine' U.DnP.mk ?a ?l ?c ?k; (case a => k_is); (case l => k_is); (case c => k_is); (case k => k_is)))
    (case f_look_at => (refine' U.DnP.mk ?a ?l ?c ?k; (case a => k_is); (case l => k_is); (case c => k_is); (case k => k_is)))
    (case f_has_other_fall => (refine' U.DnP.mk ?a ?l ?c ?k; (case a => k_is); (case l => k_is); (case c => k_is); (case k => k_is)))
    (case f_led_at_once => (refine' U.DnP.mk ?a ?l ?c ?k; (case a => k_is); (case l => k_is); (case c => k_is); (case k => k_is)))
    (case f_led_over => (refine' U.DnP.mk ?a ?l ?c ?k; (case a => k_is); (case l => k_is); (case c => k_is); (case k => k_is)))
    (case f_right_hearths => (refine' U.DnP.mk ?a ?l ?c ?k; (case a => k_is); (case l => k_is); (case c => k_is); (case k => k_is)))
    (case f_left_hearths => (refine' U.DnP.mk ?a ?l ?c ?k; (case a => k_is); (case l => k_is); (case c => k_is); (case k => k_is)))
    (case f_both_hearths => (refine' U.DnP.mk ?a ?l ?c ?k; (case a => k_is); (case l => k_is); (case c => k_is); (case k => k_is)))
    (case f_place_for => (refine' U.DnP.mk ?a ?l ?c ?k; (case a => k_is); (case l => k_is); (case c => k_is); (case k => k_is)))
    (case f_put_in => (refine' U.DnP.mk ?a ?l ?c ?k; (case a => k_is); (case l => k_is); (case c => k_is); (case k => k_is)))
    (case f_shape => (refine' U.DnP.mk ?a ?l ?c ?k; (case a => k_is); (case l => k_is); (case c => k_is); (case k => k_is)))
    (case f_new_row => (refine' U.DnP.mk ?a ?l ?c ?k; (case a => k_is); (case l => k_is); (case c => k_is); (case k => k_is)))
    (case f_tables => (refine' U.DnP.mk ?a ?l ?c ?k; (case a => k_is); (case l => k_is); (case c => k_is); (case k => k_is)))
    (case f_number_at => (refine' U.DnP.mk ?a ?l ?c ?k; (case a => k_is); (case l => k_is); (case c => k_is); (case k => k_is)))
    (case f_number_tables => (refine' U.DnP.mk ?a ?l ?c ?k; (case a => k_is); (case l => k_is); (case c => k_is); (case k => k_is)))
    (case f_first_and_second => (refine' U.DnP.mk ?a ?l ?c ?k; (case a => k_is); (case l => k_is); (case c => k_is); (case k => k_is)))
    (case f_matched => (refine' U.DnP.mk ?a ?l ?c ?k; (case a => k_is); (case l => k_is); (case c => k_is); (case k => k_is)))
    (case f_law_cell => (refine' U.DnP.mk ?a ?l ?c ?k; (case a => k_is); (case l => k_is); (case c => k_is); (case k => k_is)))
    (case f_law_bag => (refine' U.DnP.mk ?a ?l ?c ?k; (case a => k_is); (case l => k_is); (case c => k_is); (case k => k_is)))
    (case f_law_mixed => (refine' U.DnP.mk ?a ?l ?c ?k; (case a => k_is); (case l => k_is); (case c => k_is); (case k => k_is)))
    (case f_law_digit => (refine' U.DnP.mk ?a ?l ?c ?k; (case a => k_is); (case l => k_is); (case c => k_is); (case k => k_is)))
    (case f_law_order => (refine' U.DnP.mk ?a ?l ?c ?k; (case a => k_is); (case l => k_is); (case c => k_is); (case k => k_is)))
    (case f_law_one_hearth => (refine' U.DnP.mk ?a ?l ?c ?k; (case a => k_is); (case l => k_is); (case c => k_is); (case k => k_is)))
    (case f_law_like => (refine' U.DnP.mk ?a ?l ?c ?k; (case a => k_is); (case l => k_is); (case c => k_is); (case k => k_is)))
    (case f_law_numbers_right => (refine' U.DnP.mk ?a ?l ?c ?k; (case a => k_is); (case l => k_is); (case c => k_is); (case k => k_is)))
    (case f_law => (refine' U.DnP.mk ?a ?l ?c ?k; (case a => k_is); (case l => k_is); (case c => k_is); (case k => k_is)))
    (case f_MOST_THINGS_kept => (refine' U.con_mk ?a; (case a => k_is)))
    (case f_MOST_THINGS_hearths => (refine' U.con_mk ?a; (case a => k_is)))
    (case f_len => k_is)
    (case f_range => k_is)
    (case f_any => k_is)
    (case f_isinstance => k_is)
    (case f_int => k_is)
    (case f_bool => k_is)
    (case f_tuple => k_is)
    (case f_list => k_is)
    (case f_enumerate => k_is)
    (case f_sorted => k_is)
    (case f_dict => k_is)
    (case f_max => k_is)
    (case f_abs => k_is)
