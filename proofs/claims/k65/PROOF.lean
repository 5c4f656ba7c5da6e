import PyProof.Rows.All
import Wide.All
import OpenK.AllK
import Wide.FinOn
import HandS.ForMost
import HandS.Exc
import HandS.WordsExc
import HandS.Iter
import HandS.IsInst
import HandS.Deep
import HandS.Comp
import HandS.ExcField
import KE.KExcIs
import HandS.ExcIs
import HandS.Zip
import HandS.Words
import HandS.ForList
import KE.KExcSuper
import KE.KExcInit
import HandS.ExcInit
import PySem.Challenge.RW_earlytold_k65_errors_by_themselves
import KE.OsRunLaw
set_option Elab.async false
set_option linter.all false
set_option maxRecDepth 100000
set_option maxHeartbeats 4100000
/-! Mi1: the data of the small interpreter, and how they lie in the abstract heap. -/
namespace Mi
open PySem PySem.Spec PyProof.Rows L2
/-- data: what is immutable by its parts; what is mutable by a name; own classes and functions by number -/
inductive D where
  | non | bl (b : Bool) | int (i : Int) | str (x : Str) | ty (n : String)
  | cl (c : Nat) | fn (f : Nat)
  | tup (ds : List D) | lst (ds : List D)
  | xc (c : Nat) (fs : List (Str × D))
  | ob (c : Nat) (fs : List (Str × D))
  | dk (kvs : List (Key × D))
  | nm (n : Nat)
  | scr
/-- a mutable object -/
inductive AO where
  | lst (ds : List D)
  | dk (kvs : List (Key × D))
  | ins (c : Nat) (fs : List (Str × D))
  | bag
/-- where the own classes and functions stand -/
structure Gv where
  K : PySem.W.Frag
  mg : Str → Option Value
  cls : Nat → Addr
  fns : Nat → Addr
/-- frozen at p -/
def FrL (rho : List Addr) (H : Hp) (p : Addr) (vs : List V) : Prop := p ∉ rho ∧ H p = some (.lst vs)
def FrT (rho : List Addr) (H : Hp) (p : Addr) (vs : List V) : Prop := p ∉ rho ∧ H p = some (.tup vs)
def FrD (rho : List Addr) (H : Hp) (p : Addr) (kvs : List (Key × V)) : Prop := p ∉ rho ∧ Rd H p (.dK kvs)
/-- an exception object of the class at C, its own dict at d -/
def XcO (C : Addr) (d : Addr) (a : Addr) : HO := .ext fun h => ∃ (oe : Obj) (vs : Array Value), h.get? a = some oe ∧ oe.cls = .ref C ∧ oe.dict = some d ∧ oe.data = .fields vs
def FrX (rho : List Addr) (H : Hp) (p C : Addr) (fvs : List (Str × V)) : Prop :=
  ∃ (oe : Obj) (d : Addr), p ∉ rho ∧ H p = some (.frz oe (XcO C d p)) ∧ d ∉ rho ∧ H d = some (.xd fvs)
def FrS (g : Gv) (rho : List Addr) (H : Hp) (p : Addr) : Prop := ∃ ns : List Int, ((p ∉ rho ∧ Rd H p (.lst (ns.map V.int))) ∨ ∀ H', SqL g.K H' p (ns.map V.int)) ∧ ns.length ≤ 63
def FrI (rho : List Addr) (H : Hp) (p C : Addr) (fvs : List (Str × V)) : Prop := p ∉ rho ∧ ∃ dx, H p = some (.ins C dx fvs)
mutual
inductive R (g : Gv) (rho : List Addr) (H : Hp) : D → V → Prop where
  | non : R g rho H .non .non
  | bl (b : Bool) : R g rho H (.bl b) (.bl b)
  | int (i : Int) : R g rho H (.int i) (.int i)
  | str (x : Str) : R g rho H (.str x) (.str x)
  | ty (n : String) : R g rho H (.ty n) (.ty n)
  | cl (c : Nat) : R g rho H (.cl c) (.ref (g.cls c))
  | fn (f : Nat) : R g rho H (.fn f) (.ref (g.fns f))
  | tup {ds : List D} {vs : List V} {p : Addr} (h : FrT rho H p vs) (r : Rs g rho H ds vs) : R g rho H (.tup ds) (.ref p)
  | lst {ds : List D} {vs : List V} {p : Addr} (h : FrL rho H p vs) (r : Rs g rho H ds vs) : R g rho H (.lst ds) (.ref p)
  | xc {c : Nat} {fs : List (Str × D)} {fvs : List (Str × V)} {p : Addr} (h : FrX rho H p (g.cls c) fvs) (r : RFs g rho H fs fvs) : R g rho H (.xc c fs) (.ref p)
  | ob {c : Nat} {fs : List (Str × D)} {fvs : List (Str × V)} {p : Addr} (h : FrI rho H p (g.cls c) fvs) (r : RFs g rho H fs fvs) : R g rho H (.ob c fs) (.ref p)
  | dk {kvs : List (Key × D)} {kvs' : List (Key × V)} {p : Addr} (h : FrD rho H p kvs') (r : RKs g rho H kvs kvs') : R g rho H (.dk kvs) (.ref p)
  | nm {n : Nat} {p : Addr} (h : rho[n]? = some p) : R g rho H (.nm n) (.ref p)
  | scr {p : Addr} (h : FrS g rho H p) : R g rho H .scr (.ref p)
inductive Rs (g : Gv) (rho : List Addr) (H : Hp) : List D → List V → Prop where
  | nil : Rs g rho H [] []
  | cons {d : D} {v : V} {ds : List D} {vs : List V} (h : R g rho H d v) (t : Rs g rho H ds vs) : Rs g rho H (d :: ds) (v :: vs)
inductive RFs (g : Gv) (rho : List Addr) (H : Hp) : List (Str × D) → List (Str × V) → Prop where
  | nil : RFs g rho H [] []
  | cons {f : Str} {d : D} {v : V} {ds : List (Str × D)} {vs : List (Str × V)} (h : R g rho H d v) (t : RFs g rho H ds vs) : RFs g rho H ((f, d) :: ds) ((f, v) :: vs)
inductive RKs (g : Gv) (rho : List Addr) (H : Hp) : List (Key × D) → List (Key × V) → Prop where
  | nil : RKs g rho H [] []
  | cons {f : Key} {d : D} {v : V} {ds : List (Key × D)} {vs : List (Key × V)} (h : R g rho H d v) (t : RKs g rho H ds vs) : RKs g rho H ((f, d) :: ds) ((f, v) :: vs)
end
/-- the heap and the names grow; what is not named stays -/
structure Ext (rho : List Addr) (H : Hp) (rho' : List Addr) (H' : Hp) : Prop where
  pre : ∃ l, rho' = rho ++ l ∧ ∀ p ∈ l, H p = none
  keep : ∀ p o, p ∉ rho → H p = some o → H' p = some o
  there : ∀ p o, H p = some o → ∃ o', H' p = some o'
theorem Ext.refl (rho : List Addr) (H : Hp) : Ext rho H rho H := ⟨⟨[], by simp, fun _ h => nomatch h⟩, fun _ _ _ h => h, fun _ o h => ⟨o, h⟩⟩
theorem Ext.out {rho rho' : List Addr} {H H' : Hp} (e : Ext rho H rho' H') {p : Addr} {o : HO} (hp : p ∉ rho) (h : H p = some o) : p ∉ rho' ∧ H' p = some o := by
  obtain ⟨l, rfl, hl⟩ := e.pre
  refine ⟨fun hm => ?_, e.keep p o hp h⟩
  rcases List.mem_append.mp hm with hm | hm
  · exact hp hm
  · rw [hl p hm] at h; cases h
theorem Ext.get {rho rho' : List Addr} {H H' : Hp} (e : Ext rho H rho' H') {n : Nat} {p : Addr} (h : rho[n]? = some p) : rho'[n]? = some p := by
  obtain ⟨l, rfl, _⟩ := e.pre
  rw [List.getElem?_append_left (List.getElem?_eq_some_iff.mp h).1]; exact h
theorem Ext.trans {rho rho1 rho2 : List Addr} {H H1 H2 : Hp} (a : Ext rho H rho1 H1) (b : Ext rho1 H1 rho2 H2) : Ext rho H rho2 H2 := by
  refine ⟨?_, fun p o hp h => let ⟨h1, h2⟩ := a.out hp h; b.keep p o h1 h2, fun p o h => let ⟨o1, h1⟩ := a.there p o h; b.there p o1 h1⟩
  obtain ⟨l, e, hl⟩ := a.pre
  obtain ⟨l', e', hl'⟩ := b.pre
  refine ⟨l ++ l', by rw [e', e, List.append_assoc], fun p hp => ?_⟩
  rcases List.mem_append.mp hp with hp | hp
  · exact hl p hp
  · cases q : H p with
    | none => rfl
    | some o =>
      obtain ⟨o1, h1⟩ := a.there p o q
      rw [hl' p hp] at h1; cases h1
/-- a new object that gets no name -/
theorem Ext.new {rho : List Addr} {H : Hp} {p : Addr} {o : HO} (h : H p = none) : Ext rho H rho (upd H p o) := by
  refine ⟨⟨[], by simp, fun _ h => nomatch h⟩, fun q u _ hu => by rw [upd_ne (ne_of_none hu h)]; exact hu, fun q u hu => ⟨u, by rw [upd_ne (ne_of_none hu h)]; exact hu⟩⟩
/-- a new object that gets a name -/
theorem Ext.name {rho : List Addr} {H : Hp} {p : Addr} {o : HO} (h : H p = none) : Ext rho H (rho ++ [p]) (upd H p o) := by
  refine ⟨⟨[p], rfl, fun q hq => by rw [List.mem_singleton.mp hq]; exact h⟩, fun q u _ hu => by rw [upd_ne (ne_of_none hu h)]; exact hu, fun q u hu => ⟨u, by rw [upd_ne (ne_of_none hu h)]; exact hu⟩⟩
/-- a named object changes -/
theorem Ext.mut {rho : List Addr} {H : Hp} {p : Addr} {o : HO} (h : p ∈ rho) : Ext rho H rho (upd H p o) := by
  refine ⟨⟨[], by simp, fun _ h => nomatch h⟩, fun q u hq hu => by rw [upd_ne (fun e => hq (by rw [e]; exact h))]; exact hu, fun q u hu => ?_⟩
  by_cases e : q = p
  · exact ⟨o, by rw [e, upd_same]⟩
  · exact ⟨u, by rw [upd_ne e]; exact hu⟩
section
variable {g : Gv} {rho rho' : List Addr} {H H' : Hp}
theorem Ext.rd {p : Addr} {u : HO} (e : Ext rho H rho' H') (hp : p ∉ rho) (h : Rd H p u) : p ∉ rho' ∧ Rd H' p u := by
  rcases h with h | ⟨o, h⟩
  · obtain ⟨a, b⟩ := e.out hp h; exact ⟨a, .inl b⟩
  · obtain ⟨a, b⟩ := e.out hp h; exact ⟨a, .inr ⟨o, b⟩⟩
theorem FrL.ext {p : Addr} {vs : List V} (e : Ext rho H rho' H') (h : FrL rho H p vs) : FrL rho' H' p vs := e.out h.1 h.2
theorem FrT.ext {p : Addr} {vs : List V} (e : Ext rho H rho' H') (h : FrT rho H p vs) : FrT rho' H' p vs := e.out h.1 h.2
theorem FrD.ext {p : Addr} {kvs : List (Key × V)} (e : Ext rho H rho' H') (h : FrD rho H p kvs) : FrD rho' H' p kvs := e.rd h.1 h.2
theorem FrX.ext {p C : Addr} {fvs : List (Str × V)} (e : Ext rho H rho' H') (h : FrX rho H p C fvs) : FrX rho' H' p C fvs := by
  obtain ⟨oe, d, h1, h2, h3, h4⟩ := h
  obtain ⟨a, b⟩ := e.out h1 h2
  obtain ⟨c, f⟩ := e.out h3 h4
  exact ⟨oe, d, a, b, c, f⟩
theorem FrI.ext {p C : Addr} {fvs : List (Str × V)} (e : Ext rho H rho' H') (h : FrI rho H p C fvs) : FrI rho' H' p C fvs := by
  obtain ⟨h1, dx, h2⟩ := h
  obtain ⟨a, b⟩ := e.out h1 h2
  exact ⟨a, dx, b⟩
theorem FrS.ext {p : Addr} (e : Ext rho H rho' H') (h : FrS g rho H p) : FrS g rho' H' p := by
  obtain ⟨ns, h2, h3⟩ := h
  rcases h2 with ⟨h1, h2⟩ | h2
  · exact ⟨ns, .inl (e.rd h1 h2), h3⟩
  · exact ⟨ns, .inr h2, h3⟩
theorem FrS.sq {p : Addr} (h : FrS g rho H p) : ∃ ns : List Int, SqL g.K H p (ns.map V.int) ∧ ns.length ≤ 63 := by
  obtain ⟨ns, h2, h3⟩ := h
  rcases h2 with ⟨h1, h2⟩ | h2
  · exact ⟨ns, .inl h2, h3⟩
  · exact ⟨ns, h2 H, h3⟩
theorem FrS.start {p : Addr} {ns : List Int} (h : SqL g.K H p (ns.map V.int)) (hl : ns.length ≤ 63) : FrS g [] H p := by
  rcases h with h | h
  · exact ⟨ns, .inl ⟨by simp, h⟩, hl⟩
  · exact ⟨ns, .inr fun _ => .inr h, hl⟩
mutual
theorem R.ext (e : Ext rho H rho' H') : ∀ {d : D} {v : V}, R g rho H d v → R g rho' H' d v
  | _, _, .non => .non
  | _, _, .bl b => .bl b
  | _, _, .int i => .int i
  | _, _, .str x => .str x
  | _, _, .ty n => .ty n
  | _, _, .cl c => .cl c
  | _, _, .fn f => .fn f
  | _, _, .tup h r => .tup (h.ext e) (Rs.ext e r)
  | _, _, .lst h r => .lst (h.ext e) (Rs.ext e r)
  | _, _, .xc h r => .xc (h.ext e) (RFs.ext e r)
  | _, _, .ob h r => .ob (h.ext e) (RFs.ext e r)
  | _, _, .dk h r => .dk (h.ext e) (RKs.ext e r)
  | _, _, .nm h => .nm (e.get h)
  | _, _, .scr h => .scr (h.ext e)
theorem Rs.ext (e : Ext rho H rho' H') : ∀ {ds : List D} {vs : List V}, Rs g rho H ds vs → Rs g rho' H' ds vs
  | _, _, .nil => .nil
  | _, _, .cons h t => .cons (R.ext e h) (Rs.ext e t)
theorem RFs.ext (e : Ext rho H rho' H') : ∀ {ds : List (Str × D)} {vs : List (Str × V)}, RFs g rho H ds vs → RFs g rho' H' ds vs
  | _, _, .nil => .nil
  | _, _, .cons h t => .cons (R.ext e h) (RFs.ext e t)
theorem RKs.ext (e : Ext rho H rho' H') : ∀ {ds : List (Key × D)} {vs : List (Key × V)}, RKs g rho H ds vs → RKs g rho' H' ds vs
  | _, _, .nil => .nil
  | _, _, .cons h t => .cons (R.ext e h) (RKs.ext e t)
end
theorem Rs.length : ∀ {ds : List D} {vs : List V}, Rs g rho H ds vs → ds.length = vs.length
  | _, _, .nil => rfl
  | _, _, .cons _ t => by rw [List.length_cons, List.length_cons, Rs.length t]
theorem RKs.length : ∀ {ds : List (Key × D)} {vs : List (Key × V)}, RKs g rho H ds vs → ds.length = vs.length
  | _, _, .nil => rfl
  | _, _, .cons _ t => by rw [List.length_cons, List.length_cons, RKs.length t]
theorem RFs.length : ∀ {ds : List (Str × D)} {vs : List (Str × V)}, RFs g rho H ds vs → ds.length = vs.length
  | _, _, .nil => rfl
  | _, _, .cons _ t => by rw [List.length_cons, List.length_cons, RFs.length t]
theorem Rs.append : ∀ {as bs : List D} {vs ws : List V}, Rs g rho H as vs → Rs g rho H bs ws → Rs g rho H (as ++ bs) (vs ++ ws)
  | _, _, _, _, .nil, q => q
  | _, _, _, _, .cons h t, q => .cons h (Rs.append t q)
theorem Rs.get : ∀ {ds : List D} {vs : List V} {i : Nat} {d : D}, Rs g rho H ds vs → ds[i]? = some d → ∃ v, vs[i]? = some v ∧ R g rho H d v
  | _, _, 0, _, .cons h _, e => by cases e; exact ⟨_, rfl, h⟩
  | _, _, _ + 1, _, .cons _ t, e => by
    obtain ⟨v, h1, h2⟩ := Rs.get t (by simpa using e)
    exact ⟨v, by simpa using h1, h2⟩
theorem Rs.getV : ∀ {ds : List D} {vs : List V} {i : Nat} {v : V}, Rs g rho H ds vs → vs[i]? = some v → ∃ d, ds[i]? = some d ∧ R g rho H d v
  | _, _, 0, _, .cons h _, e => by cases e; exact ⟨_, rfl, h⟩
  | _, _, _ + 1, _, .cons _ t, e => by
    obtain ⟨v, h1, h2⟩ := Rs.getV t (by simpa using e)
    exact ⟨v, by simpa using h1, h2⟩
theorem Rs.take : ∀ {ds : List D} {vs : List V} (n : Nat), Rs g rho H ds vs → Rs g rho H (ds.take n) (vs.take n)
  | _, _, 0, _ => .nil
  | _, _, _ + 1, .nil => .nil
  | _, _, n + 1, .cons h t => .cons h (Rs.take n t)
theorem Rs.drop : ∀ {ds : List D} {vs : List V} (n : Nat), Rs g rho H ds vs → Rs g rho H (ds.drop n) (vs.drop n)
  | _, _, 0, q => q
  | _, _, _ + 1, .nil => .nil
  | _, _, n + 1, .cons _ t => Rs.drop n t
theorem Rs.set {d : D} {v : V} (h : R g rho H d v) : ∀ {ds : List D} {vs : List V} (n : Nat), Rs g rho H ds vs → Rs g rho H (ds.set n d) (vs.set n v)
  | _, _, _, .nil => .nil
  | _, _, 0, .cons _ t => .cons h t
  | _, _, n + 1, .cons q t => .cons q (Rs.set h n t)
theorem RFs.look {f : Str} : ∀ {ds : List (Str × D)} {vs : List (Str × V)} {d : D}, RFs g rho H ds vs → ds.lookup f = some d → ∃ v, vs.lookup f = some v ∧ R g rho H d v
  | _, _, d, .nil, e => by cases e
  | _, _, d, .cons (f := k) h t, e => by
    rw [List.lookup_cons] at e
    rw [List.lookup_cons]
    cases q : f == k with
    | true => rw [q] at e; cases e; exact ⟨_, rfl, h⟩
    | false => rw [q] at e; exact RFs.look t e
theorem RFs.none {f : Str} : ∀ {ds : List (Str × D)} {vs : List (Str × V)}, RFs g rho H ds vs → ds.lookup f = none → vs.lookup f = none
  | _, _, .nil, e => rfl
  | _, _, .cons (f := k) h t, e => by
    rw [List.lookup_cons] at e
    rw [List.lookup_cons]
    cases q : f == k with
    | true => rw [q] at e; cases e
    | false => rw [q] at e; exact RFs.none t e
/-! ### the named objects -/
/-- the script's cells are whole numbers -/
def BagAt (rho : List Addr) (H : Hp) (p : Addr) : Prop :=
  ∃ (q : Addr) (ns : List Int) (i r s : Int), H p = some (.lst [.ref q, .int i, .int r, .int s]) ∧ q ∉ rho ∧ H q = some (.lst (ns.map V.int)) ∧
    ns.length ≤ 63 ∧ 0 ≤ i ∧ 0 ≤ s ∧ s < 2147483587
def RO (g : Gv) (rho : List Addr) (H : Hp) : AO → Addr → Prop
  | .lst ds, p => ∃ vs, H p = some (.lst vs) ∧ Rs g rho H ds vs
  | .dk kvs, p => ∃ kvs', H p = some (.dK kvs') ∧ RKs g rho H kvs kvs'
  | .ins c fs, p => ∃ dx fvs, H p = some (.ins (g.cls c) dx fvs) ∧ RFs g rho H fs fvs
  | .bag, p => BagAt rho H p
theorem RO.some {ao : AO} {p : Addr} (h : RO g rho H ao p) : ∃ o, H p = some o := by
  cases ao with
  | lst ds => obtain ⟨_, h, _⟩ := h; exact ⟨_, h⟩
  | dk ds => obtain ⟨_, h, _⟩ := h; exact ⟨_, h⟩
  | ins c fs => obtain ⟨_, _, h, _⟩ := h; exact ⟨_, h⟩
  | bag => obtain ⟨_, _, _, _, _, h, _⟩ := h; exact ⟨_, h⟩
theorem RO.ext {ao : AO} {p : Addr} (e : Ext rho H rho' H') (hp : H' p = H p) (h : RO g rho H ao p) : RO g rho' H' ao p := by
  cases ao with
  | lst ds => obtain ⟨vs, h, r⟩ := h; exact ⟨vs, hp.trans h, r.ext e⟩
  | dk ds => obtain ⟨vs, h, r⟩ := h; exact ⟨vs, hp.trans h, r.ext e⟩
  | ins c fs => obtain ⟨dx, vs, h, r⟩ := h; exact ⟨dx, vs, hp.trans h, r.ext e⟩
  | bag =>
    obtain ⟨q, ns, i, r, s, h1, h2, h3, h4⟩ := h
    obtain ⟨a, b⟩ := e.out h2 h3
    exact ⟨q, ns, i, r, s, hp.trans h1, a, b, h4⟩
structure HR (g : Gv) (rho : List Addr) (H : Hp) (A : List AO) : Prop where
  nd : rho.Nodup
  len : rho.length = A.length
  at_ : ∀ (n : Nat) (ao : AO) (p : Addr), A[n]? = some ao → rho[n]? = some p → RO g rho H ao p
theorem HR.mem {A : List AO} (h : HR g rho H A) {p : Addr} (hp : p ∈ rho) : ∃ o, H p = some o := by
  obtain ⟨n, hn⟩ := List.getElem?_of_mem hp
  have hl : n < A.length := by rw [← h.len]; exact (List.getElem?_eq_some_iff.mp hn).1
  exact (h.at_ n A[n] p (List.getElem?_eq_getElem hl) hn).some
theorem HR.new {A : List AO} {p : Addr} {o : HO} (h : HR g rho H A) (hp : H p = none) : HR g rho (upd H p o) A :=
  ⟨h.nd, h.len, fun n ao q ha hq => (h.at_ n ao q ha hq).ext (Ext.new hp) (by
    obtain ⟨u, hu⟩ := (h.at_ n ao q ha hq).some
    rw [upd_ne (ne_of_none hu hp)])⟩
theorem HR.name {A : List AO} {p : Addr} {o : HO} {ao : AO} (h : HR g rho H A) (hp : H p = none) (hao : RO g (rho ++ [p]) (upd H p o) ao p) : HR g (rho ++ [p]) (upd H p o) (A ++ [ao]) := by
  have hnp : p ∉ rho := fun hm => by obtain ⟨u, hu⟩ := h.mem hm; rw [hp] at hu; cases hu
  refine ⟨?_, by simp [h.len], fun n a q ha hq => ?_⟩
  · rw [List.nodup_append]
    refine ⟨h.nd, by simp, fun a ha b hb => ?_⟩
    rw [List.mem_singleton.mp hb]
    exact fun e => hnp (e ▸ ha)
  · by_cases hn : n < A.length
    · rw [List.getElem?_append_left hn] at ha
      rw [List.getElem?_append_left (by rw [h.len]; exact hn)] at hq
      have z := h.at_ n a q ha hq
      obtain ⟨u, hu⟩ := z.some
      exact z.ext (Ext.name hp) (by rw [upd_ne (ne_of_none hu hp)])
    · have hl : n < (A ++ [ao]).length := (List.getElem?_eq_some_iff.mp ha).1
      have e : n = A.length := by simp at hl; omega
      subst e
      rw [List.getElem?_append_right (Nat.le_refl _), Nat.sub_self] at ha
      rw [List.getElem?_append_right (by rw [h.len]; exact Nat.le_refl _), h.len, Nat.sub_self] at hq
      cases ha; cases hq
      exact hao
theorem HR.mut {A : List AO} {n : Nat} {p : Addr} {o : HO} {ao : AO} (h : HR g rho H A) (hn : rho[n]? = some p) (hao : RO g rho (upd H p o) ao p) : HR g rho (upd H p o) (A.set n ao) := by
  refine ⟨h.nd, by simp [h.len], fun m a q ha hq => ?_⟩
  by_cases e : n = m
  · subst e
    have hl : n < A.length := by rw [← h.len]; exact (List.getElem?_eq_some_iff.mp hn).1
    rw [List.getElem?_set_self hl] at ha
    cases ha
    rw [hn] at hq; cases hq
    exact hao
  · rw [List.getElem?_set_ne e] at ha
    have z := h.at_ m a q ha hq
    have hqp : q ≠ p := fun z => e (by subst z; exact nd_ix h.nd hn hq)
    exact z.ext (Ext.mut (List.mem_of_getElem? hn)) (by rw [upd_ne hqp])
/-! ### the slots -/
def RSt (g : Gv) (rho : List Addr) (H : Hp) (sd : List (Option D)) (s : L2.St) : Prop :=
  sd.length = s.length ∧ ∀ (i : Nat) (d : D), sd[i]? = some (some d) → ∃ v, s[i]? = some (some v) ∧ R g rho H d v
theorem RSt.ext {sd : List (Option D)} {s : L2.St} (e : Ext rho H rho' H') (h : RSt g rho H sd s) : RSt g rho' H' sd s :=
  ⟨h.1, fun i d q => let ⟨v, a, b⟩ := h.2 i d q; ⟨v, a, b.ext e⟩⟩
theorem RSt.set {sd : List (Option D)} {s : L2.St} {i : Nat} {d : D} {v : V} (h : RSt g rho H sd s) (r : R g rho H d v) : RSt g rho H (sd.set i (some d)) (s.set i (some v)) := by
  refine ⟨by simp [h.1], fun j e q => ?_⟩
  by_cases hij : i = j
  · subst hij
    have hl : i < sd.length := by have := (List.getElem?_eq_some_iff.mp q).1; simpa using this
    rw [List.getElem?_set_self hl] at q
    cases q
    exact ⟨v, by rw [List.getElem?_set_self (by rw [← h.1]; exact hl)], r⟩
  · rw [List.getElem?_set_ne hij] at q
    obtain ⟨w, a, b⟩ := h.2 j e q
    exact ⟨w, by rw [List.getElem?_set_ne hij]; exact a, b⟩
end
/-! ### outcomes -/
inductive T (α : Type) where
  | ret (a : α)
  | exc (x : D) (A : List AO)
  | pull (n : Nat) (k : Nat → T α)
  | bad
namespace T
def bind {α β : Type} : T α → (α → T β) → T β
  | .ret a, f => f a
  | .exc x A, _ => .exc x A
  | .pull n k, f => .pull n fun i => (k i).bind f
  | .bad, _ => .bad
def Sat {α : Type} : T α → (α → Prop) → (D → List AO → Prop) → Prop
  | .ret a, P, _ => P a
  | .exc x A, _, E => E x A
  | .pull n k, P, E => ∀ i, i < n → (k i).Sat P E
  | .bad, _, _ => False
theorem Sat.bind {α β : Type} {t : T α} {f : α → T β} {P : β → Prop} {E : D → List AO → Prop} (h : (t.bind f).Sat P E) : t.Sat (fun a => (f a).Sat P E) E := by
  induction t with
  | ret a => exact h
  | exc x A => exact h
  | pull n k ih => exact fun i hi => ih i (h i hi)
  | bad => exact h
theorem Sat.mono {α : Type} {t : T α} {P P' : α → Prop} {E E' : D → List AO → Prop} (h : t.Sat P E) (hp : ∀ a, P a → P' a) (he : ∀ x A, E x A → E' x A) : t.Sat P' E' := by
  induction t with
  | ret a => exact hp _ h
  | exc x A => exact he _ _ h
  | pull n k ih => exact fun i hi => ih i (h i hi)
  | bad => exact h
theorem Sat.bind' {α β : Type} {t : T α} {f : α → T β} {P : β → Prop} {E : D → List AO → Prop} (h : t.Sat (fun a => (f a).Sat P E) E) : (t.bind f).Sat P E := by
  induction t with
  | ret a => exact h
  | exc x A => exact h
  | pull n k ih => exact fun i hi => ih i (h i hi)
  | bad => exact h
/-- a look at all outcomes -/
def chk {α : Type} (p : α → Bool) : T α → Bool
  | .ret a => p a
  | .exc _ _ => false
  | .pull n k => (List.range n).all fun i => (k i).chk p
  | .bad => false
theorem chk_ok {α : Type} {p : α → Bool} : ∀ {t : T α}, t.chk p = true → t.Sat (fun a => p a = true) (fun _ _ => False)
  | .ret a, h => h
  | .pull n k, h => fun i hi => chk_ok (List.all_eq_true.mp h i (List.mem_range.mpr hi))
/-- no exception -/
def nox {α : Type} : T α → T α
  | .ret a => .ret a
  | .exc _ _ => .bad
  | .pull n k => .pull n fun i => (k i).nox
  | .bad => .bad
theorem Sat.nox {α : Type} {t : T α} {P : α → Prop} {E : D → List AO → Prop} (h : t.nox.Sat P E) : t.Sat P (fun _ _ => False) := by
  induction t with
  | ret a => exact h
  | exc x A => exact h
  | pull n k ih => exact fun i hi => ih i (h i hi)
  | bad => exact h
end T
end Mi
/-! Mi2: the small interpreter. -/
namespace Mi
open PySem PySem.Spec PyProof.Rows L2
/-- a class: a built-in one by its name, an own one by its number -/
inductive Bt where
  | non | bool | int | str | tup | lst | dict | ve | le | ie
  deriving DecidableEq
def Bt.nm : Bt → String
  | .non => "NoneType" | .bool => "bool" | .int => "int" | .str => "str" | .tup => "tuple" | .lst => "list" | .dict => "dict" | .ve => "ValueError" | .le => "LookupError" | .ie => "IndexError"
inductive Tn where
  | b (n : Bt) | o (c : Nat)
  deriving DecidableEq
/-- what the interpreter knows of the text: fuel for its loops, isinstance's table, the exceptions' classes (tag, parameter) -/
structure Gs where
  fuel : Nat
  sub : Tn → Tn → Option Bool
  xcl : Nat → Option (Str × Option Str)
inductive Bop where
  | add | sub | mul | mod | fdiv | pow
inductive Cop where
  | eq | ne | lt | le | gt | ge | isn | isnn | inn | notin
inductive Bi where
  | len | all | int | sum | list
/-- the iterated thing of a loop or a comprehension: a list, or two lists side by side -/
inductive E where
  | sl (i : Nat) | k (d : D)
  | bin (o : Bop) (a b : E)
  | cmp (o : Cop) (a b : E)
  | and (es : List E) | or (es : List E) | not (a : E) | ife (c a b : E)
  | tup (es : List E) | lst (es : List E)
  | call (f : Nat) (es : List E)
  | xc (c : Nat) (es : List E)
  | xck (c : Nat) (f : Str) (e : E)
  | bi (b : Bi) (es : List E)
  | isi (a : E) (ts : List Tn)
  | fld (a : E) (f : Str)
  | ix (a b : E)
  | lc (i : Nat) (src elt : E)
  | lcz (i j : Nat) (a b elt : E)
def getL (A : List AO) : D → Option (List D)
  | .lst ds => some ds
  | .nm n => match A[n]? with
    | some (.lst ds) => some ds
    | _ => none
  | _ => none
def tyOf (A : List AO) : D → Option Tn
  | .non => some (.b .non)
  | .bl _ => some (.b .bool)
  | .int _ => some (.b .int)
  | .str _ => some (.b .str)
  | .tup _ => some (.b .tup)
  | .lst _ => some (.b .lst)
  | .xc c _ => some (.o c)
  | .nm n => match A[n]? with
    | some (.lst _) => some (.b .lst)
    | _ => none
  | _ => none
mutual
def toPy : D → Option PyData
  | .non => some .none
  | .bl b => some (.bool b)
  | .int i => some (.int i)
  | .str x => some (.str x)
  | .tup ds => (toPys ds).map .tuple
  | .lst ds => (toPys ds).map .list
  | _ => none
def toPys : List D → Option (List PyData)
  | [] => some []
  | d :: ds => match toPy d with
    | some p => match toPys ds with
      | some ps => some (p :: ps)
      | none => none
    | none => none
end
def derefL (A : List AO) (d : D) : D := match getL A d with
  | some ds => .lst ds
  | none => d
def flatD : D → Bool
  | .non => true | .bl _ => true | .int _ => true | .str _ => true
  | _ => false
def eqF : D → D → Bool
  | .non, .non => true
  | .bl a, .bl b => a == b
  | .bl a, .int b => (if a then 1 else 0) == b
  | .int a, .bl b => a == (if b then 1 else 0)
  | .int a, .int b => a == b
  | .str a, .str b => a == b
  | _, _ => false
def allInts : List D → Option (List Int)
  | [] => some []
  | .int i :: ds => (allInts ds).map (i :: ·)
  | _ => none
def allBls : List D → Option (List Bool)
  | [] => some []
  | .bl i :: ds => (allBls ds).map (i :: ·)
  | _ => none
abbrev Out := T (D × List AO)
def evBop (o : Bop) (A : List AO) (x y : D) : Out := match o with
  | .add => match x, y with
    | .int i, .int j => .ret (.int (i + j), A)
    | .str i, .str j => if i.length + j.length ≤ 100000 then .ret (.str (i ++ j), A) else .bad
    | x, y => match getL A x, getL A y with
      | some xs, some ys => if xs.length + ys.length ≤ 100000 then .ret (.lst (xs ++ ys), A) else .bad
      | _, _ => .bad
  | .sub => match x, y with
    | .int i, .int j => .ret (.int (i - j), A)
    | _, _ => .bad
  | .mul => match x, y with
    | .int i, .int j => if (-(2 ^ 64) < i ∧ i < 2 ^ 64) ∨ (-(2 ^ 64) < j ∧ j < 2 ^ 64) then .ret (.int (i * j), A) else .bad
    | x, .int k => match getL A x with
      | some xs => if 0 ≤ k ∧ k ≤ 100000 ∧ xs.length * k.toNat ≤ 100000 then .ret (.lst (List.replicate k.toNat xs).flatten, A) else .bad
      | none => .bad
    | _, _ => .bad
  | .mod => match x, y with
    | .int i, .int j => if 0 < j then .ret (.int (i % j), A) else .bad
    | _, _ => .bad
  | .fdiv => match x, y with
    | .int i, .int j => if 0 < j ∧ j < 1073741824 then .ret (.int (i / j), A) else .bad
    | _, _ => .bad
  | .pow => match x, y with
    | .int i, .int j => if 0 ≤ j ∧ j ≤ 1000 ∧ i.natAbs < 2 ^ 64 then .ret (.int (i ^ j.toNat), A) else .bad
    | _, _ => .bad
def evEq (A : List AO) (x y : D) : Option Bool := match toPy (derefL A x), toPy (derefL A y) with
  | some p, some q => if SeqAt.shaped p && SeqAt.shaped q then some (PyData.eqv p q) else none
  | _, _ => none
def evCop (o : Cop) (A : List AO) (x y : D) : Out := match o with
  | .eq => match evEq A x y with
    | some b => .ret (.bl b, A)
    | none => .bad
  | .ne => match evEq A x y with
    | some b => .ret (.bl (!b), A)
    | none => .bad
  | .lt => match x, y with
    | .int i, .int j => .ret (.bl (decide (i < j)), A)
    | _, _ => .bad
  | .le => match x, y with
    | .int i, .int j => .ret (.bl (decide (i ≤ j)), A)
    | _, _ => .bad
  | .gt => match x, y with
    | .int i, .int j => .ret (.bl (decide (j < i)), A)
    | _, _ => .bad
  | .ge => match x, y with
    | .int i, .int j => .ret (.bl (decide (j ≤ i)), A)
    | _, _ => .bad
  | .isn => match y with
    | .non => .ret (.bl (match x with | .non => true | _ => false), A)
    | _ => .bad
  | .isnn => match y with
    | .non => .ret (.bl (match x with | .non => false | _ => true), A)
    | _ => .bad
  | .inn => match getL A y with
    | some ys => if flatD x && ys.all flatD then .ret (.bl (ys.any fun z => eqF z x), A) else .bad
    | none => .bad
  | .notin => match getL A y with
    | some ys => if flatD x && ys.all flatD then .ret (.bl (!(ys.any fun z => eqF z x)), A) else .bad
    | none => .bad
def evBi (b : Bi) (A : List AO) (vs : List D) : Out := match b, vs with
  | .len, [.str x] => if x.length ≤ 100000 then .ret (.int x.length, A) else .bad
  | .len, [.tup xs] => .ret (.int xs.length, A)
  | .len, [d] => match getL A d with
    | some xs => .ret (.int xs.length, A)
    | none => .bad
  | .all, [d] => match getL A d with
    | some xs => match allBls xs with
      | some bs => .ret (.bl (bs.all id), A)
      | none => .bad
    | none => .bad
  | .int, [.int i] => .ret (.int i, A)
  | .int, [.bl b] => .ret (.int (if b then 1 else 0), A)
  | .sum, [d] => match getL A d with
    | some xs => match allInts xs with
      | some ns => .ret (.int ns.sum, A)
      | none => .bad
    | none => .bad
  | _, _ => .bad
def atD (xs : List D) (i : Int) : Option D := atI xs i
def evIx (A : List AO) (x y : D) : Out := match y with
  | .int i => match x with
    | .tup xs => match atD xs i with
      | some d => .ret (d, A)
      | none => .bad
    | .str z => if z.length ≤ 100000 then match atI z.cps.toList i with
        | some c => .ret (.str ⟨#[c]⟩, A)
        | none => .bad
      else .bad
    | x => match getL A x with
      | some xs => match atD xs i with
        | some d => .ret (d, A)
        | none => .bad
      | none => .bad
  | _ => .bad
def hasF (g : Gs) (c : Nat) (f : Str) : Bool := match g.xcl c with
  | some (_, none) => decide (f = "tag")
  | some (_, some p) => decide (f = "tag") || decide (f = p)
  | none => false
def evFld (g : Gs) (x : D) (f : Str) (A : List AO) : Out := match x with
  | .xc c fs => if hasF g c f then match fs.lookup f with
    | some d => .ret (d, A)
    | none => .bad
    else .bad
  | _ => .bad
def anySub (g : Gs) (t : Tn) : List Tn → Option Bool
  | [] => some false
  | c :: r => match g.sub t c with
    | some true => some true
    | some false => anySub g t r
    | none => none
def xcOf (g : Gs) (c : Nat) (vs : List D) : Option D := match g.xcl c, vs with
  | some (tag, none), [] => some (.xc c [("tag", .str tag)])
  | some (tag, some f), [v] => some (.xc c [("tag", .str tag), (f, v)])
  | _, _ => none
/-- an item is added to the list with a name -/
def push (n : Nat) (d : D) (A : List AO) : Option (List AO) := match A[n]? with
  | some (.lst ds) => if ds.length < 100000 then some (A.set n (.lst (ds ++ [d]))) else none
  | _ => none
abbrev Fn := Nat → List D → List AO → Out
abbrev Sd := List (Option D)
def wipeD (σ : Sd) : List Nat → Sd
  | [] => σ
  | v :: vs => (wipeD σ vs).set v none
/-- a comprehension's turns -/
def lcLoop (src : D) (n : Nat) (turn : D → List AO → Out) : Nat → Nat → List AO → T (List AO)
  | 0, _, _ => .bad
  | m + 1, i, A => match getL A src with
    | some ds => match ds[i]? with
      | some d => (turn d A).nox.bind fun r => match push n r.1 r.2 with
        | some A' => lcLoop src n turn m (i + 1) A'
        | none => .bad
      | none => .ret A
    | none => .bad
def pairSeq (A : List AO) (a b : D) : Option (List D × List D) := match a with
  | .tup xs => match b with
    | .tup ys => some (xs, ys)
    | _ => none
  | a => match getL A a, getL A b with
    | some xs, some ys => some (xs, ys)
    | _, _ => none
def lczLoop (a b : D) (n : Nat) (turn : D → D → List AO → Out) : Nat → Nat → List AO → T (List AO)
  | 0, _, _ => .bad
  | m + 1, i, A => match pairSeq A a b with
    | some (xs, ys) => match xs[i]?, ys[i]? with
      | some x, some y => (turn x y A).nox.bind fun r => match push n r.1 r.2 with
        | some A' => lczLoop a b n turn m (i + 1) A'
        | none => .bad
      | _, _ => .ret A
    | none => .bad
def truth (A : List AO) : D → Option Bool
  | .bl b => some b
  | _ => none
mutual
def evE (g : Gs) (F : Fn) : E → Sd → List AO → Out
  | .sl i, σ, A => match σ[i]? with
    | some (some d) => .ret (d, A)
    | _ => .bad
  | .k d, _, A => .ret (d, A)
  | .bin o a b, σ, A => (evE g F a σ A).bind fun x => (evE g F b σ x.2).bind fun y => evBop o y.2 x.1 y.1
  | .cmp o a b, σ, A => (evE g F a σ A).bind fun x => (evE g F b σ x.2).bind fun y => evCop o y.2 x.1 y.1
  | .and es, σ, A => evAnd g F es σ A
  | .or es, σ, A => evOr g F es σ A
  | .not a, σ, A => (evE g F a σ A).bind fun x => match x.1 with
    | .bl b => .ret (.bl (!b), x.2)
    | _ => .bad
  | .ife c a b, σ, A => (evE g F c σ A).bind fun x => match x.1 with
    | .bl true => evE g F a σ x.2
    | .bl false => evE g F b σ x.2
    | _ => .bad
  | .tup es, σ, A => (evEs g F es σ A).bind fun x => if x.1.length ≤ 100000 then .ret (.tup x.1, x.2) else .bad
  | .lst es, σ, A => (evEs g F es σ A).bind fun x => if x.1.length ≤ 100000 then .ret (.nm x.2.length, x.2 ++ [.lst x.1]) else .bad
  | .call f es, σ, A => (evEs g F es σ A).bind fun x => (F f x.1 x.2).nox
  | .xc c es, σ, A => (evEs g F es σ A).bind fun x => match xcOf g c x.1 with
    | some d => .ret (d, x.2)
    | none => .bad
  | .xck c f e, σ, A => (evE g F e σ A).bind fun x => match g.xcl c with
    | some (_, some f') => if f' = f then match xcOf g c [x.1] with
      | some d => .ret (d, x.2)
      | none => .bad
      else .bad
    | _ => .bad
  | .bi b es, σ, A => (evEs g F es σ A).bind fun x => evBi b x.2 x.1
  | .isi a ts, σ, A => (evE g F a σ A).bind fun x => match tyOf x.2 x.1 with
    | some t => match anySub g t ts with
      | some b => .ret (.bl b, x.2)
      | none => .bad
    | none => .bad
  | .fld a f, σ, A => (evE g F a σ A).bind fun x => evFld g x.1 f x.2
  | .ix a b, σ, A => (evE g F a σ A).bind fun x => (evE g F b σ x.2).bind fun y => evIx y.2 x.1 y.1
  | .lc i src elt, σ, A => (evE g F src σ A).bind fun x =>
      (lcLoop x.1 x.2.length (fun d A' => evE g F elt ((wipeD σ [i]).set i (some d)) A') g.fuel 0 (x.2 ++ [.lst []])).bind fun A' => .ret (.nm x.2.length, A')
  | .lcz i j a b elt, σ, A => (evE g F a σ A).bind fun x => (evE g F b σ x.2).bind fun y =>
      (lczLoop x.1 y.1 y.2.length (fun d d' A' => evE g F elt (((wipeD σ [i, j]).set i (some d)).set j (some d')) A') g.fuel 0 (y.2 ++ [.lst []])).bind fun A' => .ret (.nm y.2.length, A')
def evEs (g : Gs) (F : Fn) : List E → Sd → List AO → T (List D × List AO)
  | [], _, A => .ret ([], A)
  | e :: es, σ, A => (evE g F e σ A).bind fun x => (evEs g F es σ x.2).bind fun y => .ret (x.1 :: y.1, y.2)
def evAnd (g : Gs) (F : Fn) : List E → Sd → List AO → Out
  | [], _, _ => .bad
  | [e], σ, A => evE g F e σ A
  | e :: e2 :: es, σ, A => (evE g F e σ A).bind fun x => match x.1 with
    | .bl true => evAnd g F (e2 :: es) σ x.2
    | .bl false => .ret (.bl false, x.2)
    | _ => .bad
def evOr (g : Gs) (F : Fn) : List E → Sd → List AO → Out
  | [], _, _ => .bad
  | [e], σ, A => evE g F e σ A
  | e :: e2 :: es, σ, A => (evE g F e σ A).bind fun x => match x.1 with
    | .bl false => evOr g F (e2 :: es) σ x.2
    | .bl true => .ret (.bl true, x.2)
    | _ => .bad
end
/-! ### statements -/
inductive S where
  | set (i : Nat) (e : E)
  | unp (is_ : List Nat) (e : E)
  | iff (c : E) (a b : List S)
  | ret (e : E)
  | expr (e : E)
  | pass
/-- how a block ends -/
inductive Fl where
  | nx (σ : Sd) | rt (d : D)
def setAll : List Nat → List D → Sd → Option Sd
  | [], [], σ => some σ
  | i :: is_, d :: ds, σ => setAll is_ ds (σ.set i (some d))
  | _, _, _ => none
mutual
def evS (g : Gs) (F : Fn) : S → Sd → List AO → T (Fl × List AO)
  | .set i e, σ, A => (evE g F e σ A).bind fun x => .ret (.nx (σ.set i (some x.1)), x.2)
  | .unp is_ e, σ, A => (evE g F e σ A).bind fun x => match x.1 with
    | .tup ds => match setAll is_ ds σ with
      | some σ' => .ret (.nx σ', x.2)
      | none => .bad
    | _ => .bad
  | .iff c a b, σ, A => (evE g F c σ A).bind fun x => match x.1 with
    | .bl true => evSs g F a σ x.2
    | .bl false => evSs g F b σ x.2
    | _ => .bad
  | .ret e, σ, A => (evE g F e σ A).bind fun x => .ret (.rt x.1, x.2)
  | .expr e, σ, A => (evE g F e σ A).bind fun x => .ret (.nx σ, x.2)
  | .pass, σ, A => .ret (.nx σ, A)
def evSs (g : Gs) (F : Fn) : List S → Sd → List AO → T (Fl × List AO)
  | [], σ, A => .ret (.nx σ, A)
  | s :: ss, σ, A => (evS g F s σ A).bind fun x => match x.1 with
    | .nx σ' => evSs g F ss σ' x.2
    | .rt d => .ret (.rt d, x.2)
end
/-- a def: its number of slots, its body -/
structure Df where
  ar : Nat
  n : Nat
  body : List S
def startD (n : Nat) (vs : List D) : Sd := vs.map some ++ List.replicate (n - vs.length) none
/-- a call: f 0 and f 1 are the two defs of the bag, read as draws -/
def evF (g : Gs) (defs : Nat → Option Df) : Nat → Fn
  | 0, _, _, _ => .bad
  | m + 1, f, vs, A => match f with
    | 0 => match vs with
      | [.scr] => .ret (.nm A.length, A ++ [.bag])
      | _ => .bad
    | 1 => match vs with
      | [.nm b, .int k] => match A[b]? with
        | some .bag => if 0 < k ∧ k < 1073741824 then .pull k.toNat fun i => .ret (.int i, A) else .bad
        | _ => .bad
      | _ => .bad
    | f => match defs f with
      | some d => if vs.length = d.ar ∧ d.ar ≤ d.n then (evSs g (evF g defs m) d.body (startD d.n vs) A).bind fun x => match x.1 with
          | .nx _ => .ret (.non, x.2)
          | .rt r => .ret (r, x.2)
        else .bad
      | none => .bad
end Mi
/-! Mi3: the interpreter's operations, by HandS's rules for values. -/
namespace Mi
open PySem PySem.Spec PyProof.Rows L2
abbrev Post (g : Gv) (rho : List Addr) (H : Hp) (Q : VK) : D × List AO → Prop := fun r => ∀ rho' H' v, Ext rho H rho' H' → HR g rho' H' r.2 → R g rho' H' r.1 v → Q v H'
abbrev PostE (g : Gv) (rho : List Addr) (H : Hp) (EV : VK) : D → List AO → Prop := fun x A => ∀ rho' H' v, Ext rho H rho' H' → HR g rho' H' A → R g rho' H' x v → EV v H'
theorem Post.up {g : Gv} {rho rho' : List Addr} {H H' : Hp} {Q : VK} {r : D × List AO} (e : Ext rho H rho' H') (h : Post g rho H Q r) : Post g rho' H' Q r := fun a b v e' => h a b v (e.trans e')
theorem PostE.up {g : Gv} {rho rho' : List Addr} {H H' : Hp} {Q : VK} {x : D} {A : List AO} (e : Ext rho H rho' H') (h : PostE g rho H Q x A) : PostE g rho' H' Q x A := fun a b v e' => h a b v (e.trans e')
theorem Post.here {g : Gv} {rho : List Addr} {H : Hp} {Q : VK} {d : D} {A : List AO} {v : V} (h : Post g rho H Q (d, A)) (hr : HR g rho H A) (r : R g rho H d v) : Q v H := h rho H v (Ext.refl _ _) hr r
/-- one step, then the rest from any heap beyond -/
theorem step {α β : Type} {g : Gv} {EV : VK} {t : T α} {f : α → T β} {P : List Addr → Hp → β → Prop} {rho : List Addr} {H : Hp} (mp : ∀ {rho H rho' H' b}, Ext rho H rho' H' → P rho H b → P rho' H' b)
    (h : (t.bind f).Sat (P rho H) (PostE g rho H EV)) : t.Sat (fun a => ∀ rho' H', Ext rho H rho' H' → (f a).Sat (P rho' H') (PostE g rho' H' EV)) (PostE g rho H EV) :=
  (T.Sat.bind h).mono (fun a q rho' H' e => q.mono (fun b => mp e) fun x A => PostE.up e) fun _ _ z => z
theorem stepO {α : Type} {g : Gv} {EV Q : VK} {t : T α} {f : α → Out} {rho : List Addr} {H : Hp} (h : (t.bind f).Sat (Post g rho H Q) (PostE g rho H EV)) :
    t.Sat (fun a => ∀ rho' H', Ext rho H rho' H' → (f a).Sat (Post g rho' H' Q) (PostE g rho' H' EV)) (PostE g rho H EV) := step (P := fun rho H => Post g rho H Q) (fun e => Post.up e) h
section
variable {g : Gv} {rho : List Addr} {H : Hp} {A : List AO}
theorem HR.out (h : HR g rho H A) {p : Addr} (hp : H p = none) : p ∉ rho := fun hm => by
  obtain ⟨o, e⟩ := h.mem hm
  rw [hp] at e; cases e
theorem getL_at (hr : HR g rho H A) : ∀ {d : D} {v : V} {ds : List D}, R g rho H d v → getL A d = some ds → ∃ p vs, v = .ref p ∧ H p = some (.lst vs) ∧ Rs g rho H ds vs
  | .lst ds, _, _, .lst h r, e => by cases e; exact ⟨_, _, rfl, h.2, r⟩
  | .nm n, _, _, .nm h, e => by
    simp only [getL] at e
    split at e
    · rename_i ds' ha
      cases e
      obtain ⟨vs, h1, h2⟩ := hr.at_ _ _ _ ha h
      exact ⟨_, vs, rfl, h1, h2⟩
    · cases e
theorem frlst (hr : HR g rho H A) {l : Addr} (hl : H l = none) {ds : List D} {vs : List V} (r : Rs g rho H ds vs) : R g rho (upd H l (.lst vs)) (.lst ds) (.ref l) :=
  .lst ⟨hr.out hl, upd_same⟩ (r.ext (Ext.new hl))
theorem frtup (hr : HR g rho H A) {l : Addr} (hl : H l = none) {ds : List D} {vs : List V} (r : Rs g rho H ds vs) : R g rho (upd H l (.tup vs)) (.tup ds) (.ref l) :=
  .tup ⟨hr.out hl, upd_same⟩ (r.ext (Ext.new hl))
theorem line5 {n : Nat} (h : n ≤ 100000) : n ≤ sizeLine := by rw [sizeLine_eq]; omega
theorem line5' {n : Nat} (h : n < 100000) : n < sizeLine := by rw [sizeLine_eq]; omega
/-! ### arithmetic -/
def rAdd : R2 := fun x y H Q => (∃ i j, x = .int i ∧ y = .int j ∧ Q (.int (i + j)) H) ∨ (∃ i j, x = .str i ∧ y = .str j ∧ i.length + j.length ≤ sizeLine ∧ Q (.str (i ++ j)) H) ∨ rCat x y H Q
theorem op_addM {X : Cx} : OpR X (binaryOp .Add) rAdd := (OpR.or op_add (OpR.or op_add_str op_cat))
def rMulM : R2 := fun x y H Q => rI CMul (fun i j => .int (i * j)) x y H Q ∨ rRep x y H Q
theorem op_mulM {X : Cx} : OpR X (binaryOp .Mult) rMulM := OpR.or op_mul op_rep
def binR : Bop → R2
  | .add => rAdd
  | .sub => rI0 fun i j => .int (i - j)
  | .mul => rMulM
  | .mod => rI (fun _ j => 0 < j) fun i j => .int (i % j)
  | .fdiv => rI CDiv fun i j => .int (i / j)
  | .pow => rI CPow fun i j => .int (i ^ j.toNat)
def opOf : Bop → Operator
  | .add => .Add | .sub => .Sub | .mul => .Mult | .mod => .Mod | .fdiv => .FloorDiv | .pow => .Pow
theorem op_bin {X : Cx} : ∀ o : Bop, OpR X (binaryOp (opOf o)) (binR o)
  | .add => op_addM
  | .sub => op_sub
  | .mul => op_mulM
  | .mod => op_mod
  | .fdiv => op_fdiv
  | .pow => op_pow
theorem Rs.rep {ds : List D} {vs : List V} (r : Rs g rho H ds vs) : ∀ n : Nat, Rs g rho H (List.replicate n ds).flatten (List.replicate n vs).flatten
  | 0 => .nil
  | n + 1 => by rw [List.replicate_succ, List.replicate_succ, List.flatten_cons, List.flatten_cons]; exact r.append (Rs.rep r n)
theorem vr_bin {o : Bop} {x y : D} {vx vy : V} {Q EV : VK} (hr : HR g rho H A) (rx : R g rho H x vx) (ry : R g rho H y vy) (h : (evBop o A x y).Sat (Post g rho H Q) (PostE g rho H EV)) : binR o vx vy H Q := by
  cases o with
  | add =>
    simp only [evBop] at h
    split at h
    · cases rx; cases ry
      exact .inl ⟨_, _, rfl, rfl, h.here hr (.int _)⟩
    · cases rx; cases ry
      split at h
      · exact .inr (.inl ⟨_, _, rfl, rfl, line5 ‹_›, Post.here h hr (.str _)⟩)
      · exact h.elim
    · split at h
      · rename_i e1 e2
        obtain ⟨p, xs, rfl, hp, r1⟩ := getL_at hr rx e1
        obtain ⟨q, ys, rfl, hq, r2⟩ := getL_at hr ry e2
        split at h
        · rename_i hz
          refine .inr (.inr ⟨p, q, xs, ys, rfl, rfl, hp, hq, line5 (by rw [← r1.length, ← r2.length]; exact hz), fun l hl => ?_⟩)
          exact h _ _ _ (Ext.new hl) (hr.new hl) (frlst hr hl (r1.append r2))
        · exact h.elim
      · exact h.elim
  | sub =>
    simp only [evBop] at h
    split at h
    · cases rx; cases ry
      exact ⟨_, _, rfl, rfl, h.here hr (.int _)⟩
    · exact h.elim
  | mul =>
    simp only [evBop] at h
    split at h
    · cases rx; cases ry
      split at h
      · exact .inl ⟨_, _, rfl, rfl, ‹_›, Post.here h hr (.int _)⟩
      · exact h.elim
    · cases ry
      split at h
      · rename_i e1
        obtain ⟨p, xs, rfl, hp, r1⟩ := getL_at hr rx e1
        split at h
        · rename_i hz
          obtain ⟨h0, h1, h2⟩ := hz
          refine .inr ⟨p, _, xs, rfl, rfl, hp, by omega, by omega, line5 (by rw [← r1.length]; exact h2), fun l hl => ?_⟩
          exact h _ _ _ (Ext.new hl) (hr.new hl) (frlst hr hl (r1.rep _))
        · exact h.elim
      · exact h.elim
    · exact h.elim
  | mod =>
    simp only [evBop] at h
    split at h
    · cases rx; cases ry
      split at h
      · exact ⟨_, _, rfl, rfl, ‹_›, Post.here h hr (.int _)⟩
      · exact h.elim
    · exact h.elim
  | fdiv =>
    simp only [evBop] at h
    split at h
    · cases rx; cases ry
      split at h
      · exact ⟨_, _, rfl, rfl, ‹_›, Post.here h hr (.int _)⟩
      · exact h.elim
    · exact h.elim
  | pow =>
    simp only [evBop] at h
    split at h
    · cases rx; cases ry
      split at h
      · rename_i hz
        exact ⟨_, _, rfl, rfl, ⟨hz.1, by have := hz.2.1; omega, hz.2.2⟩, Post.here h hr (.int _)⟩
      · exact h.elim
    · exact h.elim
/-! ### comparisons -/
mutual
theorem toPy_at {K : PySem.W.Frag} : ∀ (d : D) (v : V) (p : PyData), R g rho H d v → toPy d = some p → Dp K H v p
  | .non, _, _, .non, e => by cases e; exact .non
  | .bl _, _, _, .bl _, e => by cases e; exact .bl _
  | .int _, _, _, .int _, e => by cases e; exact .int _
  | .str _, _, _, .str _, e => by cases e; exact .str _
  | .tup ds, _, p, .tup h r, e => by
    simp only [toPy, Option.map_eq_some_iff] at e
    obtain ⟨ps, e, rfl⟩ := e
    exact .tup (.of h.2) (toPys_at ds _ ps r e)
  | .lst ds, _, p, .lst h r, e => by
    simp only [toPy, Option.map_eq_some_iff] at e
    obtain ⟨ps, e, rfl⟩ := e
    exact .lst (.of h.2) (toPys_at ds _ ps r e)
theorem toPys_at {K : PySem.W.Frag} : ∀ (ds : List D) (vs : List V) (ps : List PyData), Rs g rho H ds vs → toPys ds = some ps → DpAll K H vs ps
  | [], _, _, .nil, e => by cases e; exact .nil
  | d :: ds, _, ps, .cons h t, e => by
    simp only [toPys] at e
    split at e
    · rename_i p e1
      split at e
      · rename_i qs e2
        cases e
        exact .cons (toPy_at d _ p h e1) (toPys_at ds _ qs t e2)
      · cases e
    · cases e
end
theorem deref_at {K : PySem.W.Frag} (hr : HR g rho H A) {d : D} {v : V} {p : PyData} (r : R g rho H d v) (e : toPy (derefL A d) = some p) : Dp K H v p := by
  unfold derefL at e
  split at e
  · rename_i ds e1
    obtain ⟨q, vs, rfl, hq, rs⟩ := getL_at hr r e1
    simp only [toPy, Option.map_eq_some_iff] at e
    obtain ⟨ps, e, rfl⟩ := e
    exact .lst (.of hq) (toPys_at ds _ ps rs e)
  · exact toPy_at _ _ _ r e
theorem evEq_at {K : PySem.W.Frag} (hr : HR g rho H A) {x y : D} {vx vy : V} {b : Bool} (rx : R g rho H x vx) (ry : R g rho H y vy) (e : evEq A x y = some b) :
    ∃ d e, Dp K H vx d ∧ Dp K H vy e ∧ SeqAt.shaped d = true ∧ SeqAt.shaped e = true ∧ PyData.eqv d e = b := by
  unfold evEq at e
  split at e
  · rename_i p q e1 e2
    split at e
    · rename_i hz
      rw [Bool.and_eq_true] at hz
      cases e
      exact ⟨p, q, deref_at hr rx e1, deref_at hr ry e2, hz.1, hz.2, rfl⟩
    · cases e
  · cases e
theorem flatD_at : ∀ {d : D} {v : V}, R g rho H d v → flatD d = true → flatV v = true
  | _, _, .non, _ => rfl
  | _, _, .bl _, _ => rfl
  | _, _, .int _, _ => rfl
  | _, _, .str _, _ => rfl
  | .ty _, _, _, e => by cases e
  | .cl _, _, _, e => by cases e
  | .fn _, _, _, e => by cases e
  | .tup _, _, _, e => by cases e
  | .lst _, _, _, e => by cases e
  | .xc _ _, _, _, e => by cases e
  | .ob _ _, _, _, e => by cases e
  | .dk _, _, _, e => by cases e
  | .nm _, _, _, e => by cases e
  | .scr, _, _, e => by cases e
theorem flats_at : ∀ {ds : List D} {vs : List V}, Rs g rho H ds vs → ds.all flatD = true → vs.all flatV = true
  | _, _, .nil, _ => rfl
  | _, _, .cons h t, e => by
    rw [List.all_cons, Bool.and_eq_true] at e ⊢
    exact ⟨flatD_at h e.1, flats_at t e.2⟩
theorem eqF_at {x z : D} {vx vz : V} (rx : R g rho H x vx) (rz : R g rho H z vz) (fx : flatD x = true) (fz : flatD z = true) : eqV vz vx = eqF z x := by
  cases z <;> cases x <;> first | (cases rx; cases rz; rfl) | cases fx | cases fz
theorem anyF_at {x : D} {vx : V} (rx : R g rho H x vx) (fx : flatD x = true) : ∀ {ds : List D} {vs : List V}, Rs g rho H ds vs → ds.all flatD = true → inV vx vs = ds.any fun z => eqF z x
  | _, _, .nil, _ => rfl
  | _, _, .cons h t, e => by
    rw [List.all_cons, Bool.and_eq_true] at e
    have ih := anyF_at rx fx t e.2
    unfold inV at ih ⊢
    rw [List.any_cons, List.any_cons, eqF_at rx h fx e.1, ih]
def cmpR (K : PySem.W.Frag) : Cop → R2
  | .eq => rEqD K
  | .ne => rNeD K
  | .lt => rI0 fun i j => .bl (decide (i < j))
  | .le => rI0 fun i j => .bl (decide (i ≤ j))
  | .gt => rI0 fun i j => .bl (decide (j < i))
  | .ge => rI0 fun i j => .bl (decide (j ≤ i))
  | .isn => fun x y H Q => y = .non ∧ Q (.bl (decide (x = .non))) H
  | .isnn => fun x y H Q => y = .non ∧ Q (.bl (!decide (x = .non))) H
  | .inn => rIn K false
  | .notin => rIn K true
def copOf : Cop → CmpOp
  | .eq => .Eq | .ne => .NotEq | .lt => .Lt | .le => .LtE | .gt => .Gt | .ge => .GtE | .isn => .Is | .isnn => .IsNot | .inn => .In | .notin => .NotIn
theorem op_cmp {X : Cx} (hu : X.A.units + 64 < cLine) : ∀ o : Cop, OpR X (compareOp (copOf o)) (cmpR X.K o)
  | .eq => op_eqD hu
  | .ne => op_neD hu
  | .lt => op_lt
  | .le => op_le
  | .gt => op_gt
  | .ge => op_ge
  | .isn => op_isN
  | .isnn => op_notN
  | .inn => op_in_seq
  | .notin => op_notIn_seq
theorem vr_cmp {K : PySem.W.Frag} {o : Cop} {x y : D} {vx vy : V} {Q EV : VK} (hr : HR g rho H A) (rx : R g rho H x vx) (ry : R g rho H y vy) (h : (evCop o A x y).Sat (Post g rho H Q) (PostE g rho H EV)) : cmpR K o vx vy H Q := by
  have int2 : ∀ f : Int → Int → Bool, (match x, y with | .int i, .int j => (T.ret (D.bl (f i j), A) : Out) | _, _ => .bad).Sat (Post g rho H Q) (PostE g rho H EV) → rI0 (fun i j => .bl (f i j)) vx vy H Q := fun f h => by
    split at h
    · cases rx; cases ry
      exact ⟨_, _, rfl, rfl, h.here hr (.bl _)⟩
    · exact h.elim
  cases o with
  | eq =>
    simp only [evCop] at h
    split at h
    · obtain ⟨d, e, h1, h2, h3, h4, rfl⟩ := evEq_at (K := K) hr rx ry ‹_›
      exact ⟨d, e, h1, h2, h3, h4, Post.here h hr (.bl _)⟩
    · exact h.elim
  | ne =>
    simp only [evCop] at h
    split at h
    · obtain ⟨d, e, h1, h2, h3, h4, rfl⟩ := evEq_at (K := K) hr rx ry ‹_›
      exact ⟨d, e, h1, h2, h3, h4, Post.here h hr (.bl _)⟩
    · exact h.elim
  | lt => exact int2 (fun i j => decide (i < j)) h
  | le => exact int2 (fun i j => decide (i ≤ j)) h
  | gt => exact int2 (fun i j => decide (j < i)) h
  | ge => exact int2 (fun i j => decide (j ≤ i)) h
  | isn =>
    simp only [evCop] at h
    split at h
    · cases ry
      refine ⟨rfl, ?_⟩
      have q := Post.here h hr (.bl _)
      cases rx <;> exact q
    · exact h.elim
  | isnn =>
    simp only [evCop] at h
    split at h
    · cases ry
      refine ⟨rfl, ?_⟩
      have q := Post.here h hr (.bl _)
      cases rx <;> exact q
    · exact h.elim
  | inn =>
    simp only [evCop] at h
    split at h
    · rename_i e1
      obtain ⟨q, ys, rfl, hq, r2⟩ := getL_at hr ry e1
      split at h
      · rename_i hz
        rw [Bool.and_eq_true] at hz
        refine ⟨q, ys, rfl, .inl (.of hq), flatD_at rx hz.1, flats_at r2 hz.2, ?_⟩
        show Q (.bl (inV vx ys)) H
        rw [anyF_at rx hz.1 r2 hz.2]
        exact Post.here h hr (.bl _)
      · exact h.elim
    · exact h.elim
  | notin =>
    simp only [evCop] at h
    split at h
    · rename_i e1
      obtain ⟨q, ys, rfl, hq, r2⟩ := getL_at hr ry e1
      split at h
      · rename_i hz
        rw [Bool.and_eq_true] at hz
        refine ⟨q, ys, rfl, .inl (.of hq), flatD_at rx hz.1, flats_at r2 hz.2, ?_⟩
        show Q (.bl (!inV vx ys)) H
        rw [anyF_at rx hz.1 r2 hz.2]
        exact Post.here h hr (.bl _)
      · exact h.elim
    · exact h.elim
/-! ### items -/
theorem atI_at {ds : List D} {vs : List V} {i : Int} {d : D} (r : Rs g rho H ds vs) (e : atI ds i = some d) : ∃ v, atI vs i = some v ∧ R g rho H d v := by
  unfold atI at e ⊢
  rw [← r.length]
  cases q : ixN ds.length i with
  | none => rw [q] at e; cases e
  | some j =>
    rw [q] at e
    exact r.get e
theorem vr_ix {K : PySem.W.Frag} {x y : D} {vx vy : V} {Q EV : VK} (hr : HR g rho H A) (rx : R g rho H x vx) (ry : R g rho H y vy) (h : (evIx A x y).Sat (Post g rho H Q) (PostE g rho H EV)) : rIx K vx vy H Q := by
  unfold evIx at h
  split at h
  · rename_i i
    cases ry
    split at h
    · rename_i xs
      cases rx with
      | tup hf rs =>
        split at h
        · rename_i d e
          obtain ⟨v, e2, rv⟩ := atI_at rs e
          exact .inr (.inl ⟨_, _, i, v, rfl, rfl, .of hf.2, e2, Post.here h hr rv⟩)
        · exact h.elim
    · rename_i z
      cases rx
      split at h
      · split at h
        · exact .inr (.inr ⟨z, i, _, rfl, rfl, line5 ‹_›, ‹_›, Post.here h hr (.str _)⟩)
        · exact h.elim
      · exact h.elim
    · split at h
      · rename_i xs e1
        obtain ⟨p, vs, rfl, hp, rs⟩ := getL_at hr rx e1
        split at h
        · rename_i d e
          obtain ⟨v, e2, rv⟩ := atI_at rs e
          exact .inl ⟨_, _, i, v, rfl, rfl, .of hp, e2, Post.here h hr rv⟩
        · exact h.elim
      · exact h.elim
  · exact h.elim
end
end Mi
/-! Mi4: the interpreter's reading of expressions, by HandS's rules. -/
namespace Mi
open PySem PySem.Spec PyProof.Rows L2
theorem pe_mono {X : Cx} {e : Expr} {t t' : TE} (h : PE X e t) (m : ∀ σ H Q, t' σ H Q → t σ H Q) : PE X e t' := ⟨fun pins s σ H Q I q => h.run pins s σ H Q I (m _ _ _ q)⟩
theorem pt_mono {X : Cx} {e : Expr} {t t' : L2.TT} (h : PT X e t) (m : ∀ σ H Q, t' σ H Q → t σ H Q) : PT X e t' := ⟨fun pins s σ H Q I q => h.run pins s σ H Q I (m _ _ _ q)⟩
theorem pw_mono {X : Cx} {e : Expr} {t t' : L2.TT} (h : PW X e t) (m : ∀ σ H Q, t' σ H Q → t σ H Q) : PW X e t' := ⟨fun wh pins s σ H Q I q => h.run wh pins s σ H Q I (m _ _ _ q)⟩
theorem pa_mono {X : Cx} {e : List Expr} {t t' : TA} (h : PA X e t) (m : ∀ σ H Q, t' σ H Q → t σ H Q) : PA X e t' := ⟨fun pos pins s σ H Q I q => h.run pos pins s σ H Q I (m _ _ _ q)⟩
theorem ps_mono {X : Cx} {e : Stmt} {t t' : TS} (h : PS X e t) (m : ∀ D σ H, t' D σ H → t D σ H) : PS X e t' := ⟨fun pins s σ H D I q => h.run pins s σ H D I (m _ _ _ q)⟩
theorem pss_mono {X : Cx} {e : List Stmt} {t t' : TS} (h : PSs X e t) (m : ∀ D σ H, t' D σ H → t D σ H) : PSs X e t' := ⟨fun pins s σ H D I q => h.run pins s σ H D I (m _ _ _ q)⟩
abbrev PostS (g : Gv) (rho : List Addr) (H : Hp) (Q : List V → Hp → Prop) : List D × List AO → Prop := fun r => ∀ rho' H' vs, Ext rho H rho' H' → HR g rho' H' r.2 → Rs g rho' H' r.1 vs → Q vs H'
theorem PostS.up {g : Gv} {rho rho' : List Addr} {H H' : Hp} {Q : List V → Hp → Prop} {r : List D × List AO} (e : Ext rho H rho' H') (h : PostS g rho H Q r) : PostS g rho' H' Q r := fun a b v e' => h a b v (e.trans e')
theorem stepS {α : Type} {g : Gv} {EV : VK} {Q : List V → Hp → Prop} {t : T α} {f : α → T (List D × List AO)} {rho : List Addr} {H : Hp} (h : (t.bind f).Sat (PostS g rho H Q) (PostE g rho H EV)) :
    t.Sat (fun a => ∀ rho' H', Ext rho H rho' H' → (f a).Sat (PostS g rho' H' Q) (PostE g rho' H' EV)) (PostE g rho H EV) := step (P := fun rho H => PostS g rho H Q) (fun e => PostS.up e) h
abbrev Fo := Sd → List AO → Out
def tO (g : Gv) (EV : VK) (o : Fo) : TE := fun σ H Q => ∃ rho A sd, HR g rho H A ∧ RSt g rho H sd σ ∧ (o sd A).Sat (Post g rho H Q) (PostE g rho H EV)
def tOs (g : Gv) (EV : VK) (o : Sd → List AO → T (List D × List AO)) : TA := fun σ H Q => ∃ rho A sd, HR g rho H A ∧ RSt g rho H sd σ ∧ (o sd A).Sat (PostS g rho H Q) (PostE g rho H EV)
abbrev tOt (g : Gv) (EV : VK) (o : Fo) : L2.TT := tB (tO g EV o)
section
variable {g : Gv} {EV : VK} {X : Cx} {σ : L2.St} {H : Hp}
/-- the first step of a reading -/
theorem tO_seq {oa : Fo} {f : D × List AO → Sd → Out} {Q : VK} (h : tO g EV (fun sd A => (oa sd A).bind fun x => f x sd) σ H Q) :
    tO g EV oa σ H fun v H1 => ∃ rho A sd d, HR g rho H1 A ∧ RSt g rho H1 sd σ ∧ R g rho H1 d v ∧ (f (d, A) sd).Sat (Post g rho H1 Q) (PostE g rho H1 EV) := by
  obtain ⟨rho, A, sd, hr, hs, h⟩ := h
  refine ⟨rho, A, sd, hr, hs, (stepO h).mono (fun x q rho1 H1 v e1 hr1 rv => ?_) fun _ _ z => z⟩
  exact ⟨rho1, x.2, sd, x.1, hr1, hs.ext e1, rv, q rho1 H1 e1⟩
theorem tO_seq2 {oa ob : Fo} {f : D → D × List AO → Sd → Out} {Q : VK} (h : tO g EV (fun sd A => (oa sd A).bind fun x => (ob sd x.2).bind fun y => f x.1 y sd) σ H Q) :
    tO g EV oa σ H fun v H1 => tO g EV ob σ H1 fun w H2 => ∃ rho A sd d e, HR g rho H2 A ∧ RSt g rho H2 sd σ ∧ R g rho H2 d v ∧ R g rho H2 e w ∧ (f d (e, A) sd).Sat (Post g rho H2 Q) (PostE g rho H2 EV) := by
  obtain ⟨rho, A, sd, hr, hs, h⟩ := h
  refine ⟨rho, A, sd, hr, hs, (stepO h).mono (fun x q rho1 H1 v e1 hr1 rv => ?_) fun _ _ z => z⟩
  refine ⟨rho1, x.2, sd, hr1, hs.ext e1, (stepO (q rho1 H1 e1)).mono (fun y q rho2 H2 w e2 hr2 rw => ?_) fun _ _ z => z⟩
  exact ⟨rho2, y.2, sd, x.1, y.1, hr2, (hs.ext e1).ext e2, rv.ext e2, rw, q rho2 H2 e2⟩
theorem tOs_seq {oa : Sd → List AO → T (List D × List AO)} {f : List D × List AO → Sd → Out} {Q : VK} (h : tO g EV (fun sd A => (oa sd A).bind fun x => f x sd) σ H Q) :
    tOs g EV oa σ H fun v H1 => ∃ rho A sd d, HR g rho H1 A ∧ RSt g rho H1 sd σ ∧ Rs g rho H1 d v ∧ (f (d, A) sd).Sat (Post g rho H1 Q) (PostE g rho H1 EV) := by
  obtain ⟨rho, A, sd, hr, hs, h⟩ := h
  refine ⟨rho, A, sd, hr, hs, (stepO h).mono (fun x q rho1 H1 v e1 hr1 rv => ?_) fun _ _ z => z⟩
  exact ⟨rho1, x.2, sd, x.1, hr1, hs.ext e1, rv, q rho1 H1 e1⟩
/-- a reading that begins at once -/
theorem tO_at {rho : List Addr} {A : List AO} {sd : Sd} {o : Fo} {Q : VK} (hr : HR g rho H A) (hs : RSt g rho H sd σ) (h : (o sd A).Sat (Post g rho H Q) (PostE g rho H EV)) : tO g EV o σ H Q := ⟨rho, A, sd, hr, hs, h⟩
/-! ### names, constants -/
theorem pe_slM {i : Nat} {e : Expr} (h : PE X e (tVar i)) : PE X e (tO g EV fun sd A => match sd[i]? with | some (some d) => .ret (d, A) | _ => .bad) := pe_mono h fun σ H Q q => by
  obtain ⟨rho, A, sd, hr, hs, q⟩ := q
  dsimp only at q
  split at q
  · rename_i d e
    obtain ⟨v, h1, h2⟩ := hs.2 i d e
    exact ⟨v, h1, Post.here q hr h2⟩
  · exact q.elim
theorem pe_kM {e : Expr} {d : D} {v : V} (h : PE X e (tC v)) (hd : ∀ rho H, R g rho H d v) : PE X e (tO g EV fun _ A => .ret (d, A)) := pe_mono h fun σ H Q q => by
  obtain ⟨rho, A, sd, hr, hs, q⟩ := q
  exact Post.here q hr (hd rho H)
/-! ### two values -/
theorem pe_binM {o : Bop} {a b : Expr} {oa ob : Fo} {pos : Pos} (ha : PE X a (tO g EV oa)) (hb : PE X b (tO g EV ob)) :
    PE X (.BinOp a (opOf o) b pos) (tO g EV fun sd A => (oa sd A).bind fun x => (ob sd x.2).bind fun y => evBop o y.2 x.1 y.1) := pe_mono (pe_op (op_bin o) ha hb) fun σ H Q q => by
  have z := tO_seq2 (f := fun x y sd => evBop o y.2 x y.1) q
  obtain ⟨rho, A, sd, hr, hs, z⟩ := z
  refine ⟨rho, A, sd, hr, hs, z.mono (fun x q rho1 H1 v e1 hr1 rv => ?_) fun _ _ z => z⟩
  obtain ⟨rho, A, sd, hr, hs, z⟩ := q rho1 H1 v e1 hr1 rv
  refine ⟨rho, A, sd, hr, hs, z.mono (fun y q rho2 H2 w e2 hr2 rw => ?_) fun _ _ z => z⟩
  obtain ⟨rho, A, sd, d, e, hr, hs, r1, r2, z⟩ := q rho2 H2 w e2 hr2 rw
  exact vr_bin hr r1 r2 z
theorem cmp_down {o : Cop} {oa ob : Fo} {K : PySem.W.Frag} {Q : VK} (q : tO g EV (fun sd A => (oa sd A).bind fun x => (ob sd x.2).bind fun y => evCop o y.2 x.1 y.1) σ H Q) : tOp (cmpR K o) (tO g EV oa) (tO g EV ob) σ H Q := by
  have z := tO_seq2 (f := fun x y sd => evCop o y.2 x y.1) q
  obtain ⟨rho, A, sd, hr, hs, z⟩ := z
  refine ⟨rho, A, sd, hr, hs, z.mono (fun x q rho1 H1 v e1 hr1 rv => ?_) fun _ _ z => z⟩
  obtain ⟨rho, A, sd, hr, hs, z⟩ := q rho1 H1 v e1 hr1 rv
  refine ⟨rho, A, sd, hr, hs, z.mono (fun y q rho2 H2 w e2 hr2 rw => ?_) fun _ _ z => z⟩
  obtain ⟨rho, A, sd, d, e, hr, hs, r1, r2, z⟩ := q rho2 H2 w e2 hr2 rw
  exact vr_cmp hr r1 r2 z
theorem pe_cmpM {o : Cop} {a b : Expr} {oa ob : Fo} {pos : Pos} (hu : X.A.units + 64 < cLine) (ha : PE X a (tO g EV oa)) (hb : PE X b (tO g EV ob)) (hm : behindInMarks (copOf o) b = false) :
    PE X (.Compare a [copOf o] [b] pos) (tO g EV fun sd A => (oa sd A).bind fun x => (ob sd x.2).bind fun y => evCop o y.2 x.1 y.1) := pe_mono (pe_cmpR (op_cmp hu o) ha hb hm) fun σ H Q q => cmp_down q
theorem pt_cmpM {o : Cop} {a b : Expr} {oa ob : Fo} {pos : Pos} (hu : X.A.units + 64 < cLine) (ha : PE X a (tO g EV oa)) (hb : PE X b (tO g EV ob)) (hm : behindInMarks (copOf o) b = false) :
    PT X (.Compare a [copOf o] [b] pos) (tOt g EV fun sd A => (oa sd A).bind fun x => (ob sd x.2).bind fun y => evCop o y.2 x.1 y.1) := pt_mono (pt_cmpR (op_cmp hu o) ha hb hm) fun σ H Q q => cmp_down q
theorem pe_ixM {a b : Expr} {oa ob : Fo} {pos : Pos} (ha : PE X a (tO g EV oa)) (hb : PE X b (tO g EV ob)) (hs : PlainIx b) :
    PE X (.Subscript a b pos) (tO g EV fun sd A => (oa sd A).bind fun x => (ob sd x.2).bind fun y => evIx y.2 x.1 y.1) := pe_mono (pe_ix ix_seq ha hb hs) fun σ H Q q => by
  have z := tO_seq2 (f := fun x y sd => evIx y.2 x y.1) q
  obtain ⟨rho, A, sd, hr, hs, z⟩ := z
  refine ⟨rho, A, sd, hr, hs, z.mono (fun x q rho1 H1 v e1 hr1 rv => ?_) fun _ _ z => z⟩
  obtain ⟨rho, A, sd, hr, hs, z⟩ := q rho1 H1 v e1 hr1 rv
  refine ⟨rho, A, sd, hr, hs, z.mono (fun y q rho2 H2 w e2 hr2 rw => ?_) fun _ _ z => z⟩
  obtain ⟨rho, A, sd, d, e, hr, hs, r1, r2, z⟩ := q rho2 H2 w e2 hr2 rw
  exact vr_ix hr r1 r2 z
/-! ### and, or, not, if -/
theorem pe_andM {a b : Expr} {rest : List Expr} {oa ob : Fo} {pos : Pos} (ha : PE X a (tO g EV oa)) (hb : PE X (.BoolOp .And (b :: rest) pos) (tO g EV ob)) :
    PE X (.BoolOp .And (a :: b :: rest) pos) (tO g EV fun sd A => (oa sd A).bind fun x => match x.1 with | .bl true => ob sd x.2 | .bl false => .ret (.bl false, x.2) | _ => .bad) := pe_mono (pe_and ha hb) fun σ H Q q => by
  obtain ⟨rho, A, sd, hr, hs, z⟩ := tO_seq (f := fun x sd => match x.1 with | .bl true => ob sd x.2 | .bl false => .ret (.bl false, x.2) | _ => .bad) q
  refine ⟨rho, A, sd, hr, hs, z.mono (fun x q rho1 H1 v e1 hr1 rv => ?_) fun _ _ z => z⟩
  obtain ⟨rho, A, sd, d, hr, hs, r1, z⟩ := q rho1 H1 v e1 hr1 rv
  dsimp only at z
  split at z
  · cases r1; exact ⟨true, rfl, tO_at hr hs z⟩
  · cases r1; exact ⟨false, rfl, Post.here z hr (.bl _)⟩
  · exact z.elim
theorem pe_orM {a b : Expr} {rest : List Expr} {oa ob : Fo} {pos : Pos} (ha : PE X a (tO g EV oa)) (hb : PE X (.BoolOp .Or (b :: rest) pos) (tO g EV ob)) :
    PE X (.BoolOp .Or (a :: b :: rest) pos) (tO g EV fun sd A => (oa sd A).bind fun x => match x.1 with | .bl false => ob sd x.2 | .bl true => .ret (.bl true, x.2) | _ => .bad) := pe_mono (pe_or ha hb) fun σ H Q q => by
  obtain ⟨rho, A, sd, hr, hs, z⟩ := tO_seq (f := fun x sd => match x.1 with | .bl false => ob sd x.2 | .bl true => .ret (.bl true, x.2) | _ => .bad) q
  refine ⟨rho, A, sd, hr, hs, z.mono (fun x q rho1 H1 v e1 hr1 rv => ?_) fun _ _ z => z⟩
  obtain ⟨rho, A, sd, d, hr, hs, r1, z⟩ := q rho1 H1 v e1 hr1 rv
  dsimp only at z
  split at z
  · cases r1; exact ⟨false, rfl, tO_at hr hs z⟩
  · cases r1; exact ⟨true, rfl, Post.here z hr (.bl _)⟩
  · exact z.elim
theorem pw_andM {a b : Expr} {rest : List Expr} {oa ob : Fo} {pos : Pos} (ha : PT X a (tOt g EV oa)) (hb : PW X (.BoolOp .And (b :: rest) pos) (tOt g EV ob)) :
    PW X (.BoolOp .And (a :: b :: rest) pos) (tOt g EV fun sd A => (oa sd A).bind fun x => match x.1 with | .bl true => ob sd x.2 | .bl false => .ret (.bl false, x.2) | _ => .bad) := pw_mono (pw_and ha hb) fun σ H Q q => by
  obtain ⟨rho, A, sd, hr, hs, z⟩ := tO_seq (f := fun x sd => match x.1 with | .bl true => ob sd x.2 | .bl false => .ret (.bl false, x.2) | _ => .bad) q
  refine ⟨rho, A, sd, hr, hs, z.mono (fun x q rho1 H1 v e1 hr1 rv => ?_) fun _ _ z => z⟩
  obtain ⟨rho, A, sd, d, hr, hs, r1, z⟩ := q rho1 H1 v e1 hr1 rv
  dsimp only at z
  split at z
  · cases r1; exact ⟨true, rfl, tO_at hr hs z⟩
  · cases r1
    obtain ⟨c, e, q⟩ := Post.here z hr (.bl _)
    cases e
    exact ⟨false, rfl, q⟩
  · exact z.elim
theorem pw_orM {a b : Expr} {rest : List Expr} {oa ob : Fo} {pos : Pos} (ha : PT X a (tOt g EV oa)) (hb : PW X (.BoolOp .Or (b :: rest) pos) (tOt g EV ob)) :
    PW X (.BoolOp .Or (a :: b :: rest) pos) (tOt g EV fun sd A => (oa sd A).bind fun x => match x.1 with | .bl false => ob sd x.2 | .bl true => .ret (.bl true, x.2) | _ => .bad) := pw_mono (pw_or ha hb) fun σ H Q q => by
  obtain ⟨rho, A, sd, hr, hs, z⟩ := tO_seq (f := fun x sd => match x.1 with | .bl false => ob sd x.2 | .bl true => .ret (.bl true, x.2) | _ => .bad) q
  refine ⟨rho, A, sd, hr, hs, z.mono (fun x q rho1 H1 v e1 hr1 rv => ?_) fun _ _ z => z⟩
  obtain ⟨rho, A, sd, d, hr, hs, r1, z⟩ := q rho1 H1 v e1 hr1 rv
  dsimp only at z
  split at z
  · cases r1; exact ⟨false, rfl, tO_at hr hs z⟩
  · cases r1
    obtain ⟨c, e, q⟩ := Post.here z hr (.bl _)
    cases e
    exact ⟨true, rfl, q⟩
  · exact z.elim
theorem pe_notM {a : Expr} {oa : Fo} {pos : Pos} (ha : PE X a (tO g EV oa)) : PE X (.UnaryOp .Not a pos) (tO g EV fun sd A => (oa sd A).bind fun x => match x.1 with | .bl b => .ret (.bl (!b), x.2) | _ => .bad) := pe_mono (pe_not ha) fun σ H Q q => by
  obtain ⟨rho, A, sd, hr, hs, z⟩ := tO_seq (f := fun x sd => match x.1 with | .bl b => .ret (.bl (!b), x.2) | _ => .bad) q
  refine ⟨rho, A, sd, hr, hs, z.mono (fun x q rho1 H1 v e1 hr1 rv => ?_) fun _ _ z => z⟩
  obtain ⟨rho, A, sd, d, hr, hs, r1, z⟩ := q rho1 H1 v e1 hr1 rv
  dsimp only at z
  split at z
  · cases r1; exact ⟨_, rfl, Post.here z hr (.bl _)⟩
  · exact z.elim
theorem pt_notM {a : Expr} {oa : Fo} {pos : Pos} (ha : PT X a (tOt g EV oa)) : PT X (.UnaryOp .Not a pos) (tOt g EV fun sd A => (oa sd A).bind fun x => match x.1 with | .bl b => .ret (.bl (!b), x.2) | _ => .bad) := pt_mono (pt_not ha) fun σ H Q q => by
  obtain ⟨rho, A, sd, hr, hs, z⟩ := tO_seq (f := fun x sd => match x.1 with | .bl b => .ret (.bl (!b), x.2) | _ => .bad) q
  refine ⟨rho, A, sd, hr, hs, z.mono (fun x q rho1 H1 v e1 hr1 rv => ?_) fun _ _ z => z⟩
  obtain ⟨rho, A, sd, d, hr, hs, r1, z⟩ := q rho1 H1 v e1 hr1 rv
  dsimp only at z
  split at z
  · cases r1
    obtain ⟨c, e, q⟩ := Post.here z hr (.bl _)
    cases e
    exact ⟨_, rfl, q⟩
  · exact z.elim
theorem pe_ifM {c a b : Expr} {oc oa ob : Fo} {pos : Pos} (hc : PT X c (tOt g EV oc)) (ha : PE X a (tO g EV oa)) (hb : PE X b (tO g EV ob)) :
    PE X (.IfExp c a b pos) (tO g EV fun sd A => (oc sd A).bind fun x => match x.1 with | .bl true => oa sd x.2 | .bl false => ob sd x.2 | _ => .bad) := pe_mono (pe_ifExp hc ha hb) fun σ H Q q => by
  obtain ⟨rho, A, sd, hr, hs, z⟩ := tO_seq (f := fun x sd => match x.1 with | .bl true => oa sd x.2 | .bl false => ob sd x.2 | _ => .bad) q
  refine ⟨rho, A, sd, hr, hs, z.mono (fun x q rho1 H1 v e1 hr1 rv => ?_) fun _ _ z => z⟩
  obtain ⟨rho, A, sd, d, hr, hs, r1, z⟩ := q rho1 H1 v e1 hr1 rv
  dsimp only at z
  split at z
  · cases r1; exact ⟨true, rfl, tO_at hr hs z⟩
  · cases r1; exact ⟨false, rfl, tO_at hr hs z⟩
  · exact z.elim
/-! ### lists of expressions -/
theorem pa_nilM : PA X [] (tOs g EV fun _ A => .ret ([], A)) := pa_mono pa_nil fun σ H Q q => by
  obtain ⟨rho, A, sd, hr, hs, q⟩ := q
  exact q rho H [] (Ext.refl _ _) hr .nil
theorem pa_consM {e : Expr} {es : List Expr} {oa : Fo} {os : Sd → List AO → T (List D × List AO)} (ha : PE X e (tO g EV oa)) (hb : PA X es (tOs g EV os)) (hs : starEach (e :: es) X.env = (false, eval e X.env) :: starEach es X.env) :
    PA X (e :: es) (tOs g EV fun sd A => (oa sd A).bind fun x => (os sd x.2).bind fun y => .ret (x.1 :: y.1, y.2)) := pa_mono (pa_cons ha hb hs) fun σ H Q q => by
  obtain ⟨rho, A, sd, hr, hs, q⟩ := q
  refine ⟨rho, A, sd, hr, hs, (stepS q).mono (fun x q rho1 H1 v e1 hr1 rv => ?_) fun _ _ z => z⟩
  refine ⟨rho1, x.2, sd, hr1, hs.ext e1, (stepS (q rho1 H1 e1)).mono (fun y q rho2 H2 vs e2 hr2 rw => ?_) fun _ _ z => z⟩
  exact q rho2 H2 e2 rho2 H2 _ (Ext.refl _ _) hr2 (.cons (rv.ext e2) rw)
theorem pe_tupM {es : List Expr} {k : Nat} {pos : Pos} {os : Sd → List AO → T (List D × List AO)} (h : PA X es (tOs g EV os)) :
    PE X (.Tuple es k pos) (tO g EV fun sd A => (os sd A).bind fun x => if x.1.length ≤ 100000 then .ret (.tup x.1, x.2) else .bad) := pe_mono (pe_tup h) fun σ H Q q => by
  obtain ⟨rho, A, sd, hr, hs, z⟩ := tOs_seq (f := fun x sd => if x.1.length ≤ 100000 then .ret (.tup x.1, x.2) else .bad) q
  refine ⟨rho, A, sd, hr, hs, z.mono (fun x q rho1 H1 v e1 hr1 rv => ?_) fun _ _ z => z⟩
  obtain ⟨rho, A, sd, d, hr, hs, r1, z⟩ := q rho1 H1 v e1 hr1 rv
  dsimp only at z
  split at z
  · exact ⟨line5 (by rw [← r1.length]; assumption), fun p hp => z _ _ _ (Ext.new hp) (hr.new hp) (frtup hr hp r1)⟩
  · exact z.elim
theorem pe_lstM {es : List Expr} {pos : Pos} {os : Sd → List AO → T (List D × List AO)} (h : PA X es (tOs g EV os)) :
    PE X (.List es pos) (tO g EV fun sd A => (os sd A).bind fun x => if x.1.length ≤ 100000 then .ret (.nm x.2.length, x.2 ++ [.lst x.1]) else .bad) := pe_mono (pe_lst h) fun σ H Q q => by
  obtain ⟨rho, A, sd, hr, hs, z⟩ := tOs_seq (f := fun x sd => if x.1.length ≤ 100000 then .ret (.nm x.2.length, x.2 ++ [.lst x.1]) else .bad) q
  refine ⟨rho, A, sd, hr, hs, z.mono (fun x q rho1 H1 v e1 hr1 rv => ?_) fun _ _ z => z⟩
  obtain ⟨rho, A, sd, d, hr, hs, r1, z⟩ := q rho1 H1 v e1 hr1 rv
  dsimp only at z
  split at z
  · refine ⟨line5 (by rw [← r1.length]; assumption), fun p hp => z _ _ _ (Ext.name hp) (hr.name hp ⟨_, upd_same, r1.ext (Ext.name hp)⟩) (.nm ?_)⟩
    rw [← hr.len, List.getElem?_append_right (Nat.le_refl _), Nat.sub_self]
    rfl
  · exact z.elim
/-! ### comprehensions -/
theorem RSt.wipe {rho : List Addr} {sd : Sd} (h : RSt g rho H sd σ) : ∀ vs : List Nat, RSt g rho H (wipeD sd vs) (L2.wipe σ vs)
  | [] => h
  | v :: vs => by
    have ih := RSt.wipe h vs
    refine ⟨by show ((wipeD sd vs).set v none).length = ((L2.wipe σ vs).set v none).length; simp [ih.1], fun i d e => ?_⟩
    have e : ((wipeD sd vs).set v none)[i]? = some (some d) := e
    show ∃ w, ((L2.wipe σ vs).set v none)[i]? = some (some w) ∧ _
    by_cases hi : v = i
    · subst hi
      by_cases hl : v < (wipeD sd vs).length
      · rw [List.getElem?_set_self hl] at e; cases e
      · rw [List.getElem?_eq_none (by simpa using hl)] at e; cases e
    · rw [List.getElem?_set_ne hi] at e ⊢
      exact ih.2 i d e
/-- what a comprehension's list comes to -/
def LcEnd (g : Gv) (D : Addr) (n : Nat) (Q : VK) (rho : List Addr) (H : Hp) (A' : List AO) : Prop := ∀ rho' H', Ext rho H rho' H' → HR g rho' H' A' → rho'[n]? = some D → Q (.ref D) H'
theorem LcEnd.up {D : Addr} {n : Nat} {Q : VK} {rho rho' : List Addr} {H H' : Hp} {A' : List AO} (e : Ext rho H rho' H') (h : LcEnd g D n Q rho H A') : LcEnd g D n Q rho' H' A' := fun a b e' => h a b (e.trans e')
def lcO (gs : Gs) (i : Nat) (oa : Fo) (oe : Fo) : Fo := fun sd A => (oa sd A).bind fun x =>
  (lcLoop x.1 x.2.length (fun d A' => oe ((wipeD sd [i]).set i (some d)) A') gs.fuel 0 (x.2 ++ [.lst []])).bind fun A' => .ret (.nm x.2.length, A')
theorem push_at {n : Nat} {d : D} {y : V} {rho : List Addr} {A A' : List AO} {D : Addr} (hr : HR g rho H A) (hn : rho[n]? = some D) (rd : R g rho H d y) (h : push n d A = some A') :
    ∃ acc, H D = some (.lst acc) ∧ acc.length < sizeLine ∧ HR g rho (upd H D (.lst (acc ++ [y]))) A' ∧ Ext rho H rho (upd H D (.lst (acc ++ [y]))) := by
  unfold push at h
  split at h
  · rename_i ds ha
    split at h
    · cases h
      obtain ⟨vs, h1, h2⟩ := hr.at_ n _ D ha hn
      have e : Ext rho H rho (upd H D (.lst (vs ++ [y]))) := Ext.mut (List.mem_of_getElem? hn)
      exact ⟨vs, h1, line5' (by rw [← h2.length]; assumption), hr.mut hn ⟨_, upd_same, (h2.append (.cons rd .nil)).ext e⟩, e⟩
    · cases h
  · cases h
theorem iteYes {a b : Prop} (h : a) : (if true = true then a else b) := by rw [if_pos rfl]; exact h
theorem tYes_run {Q : Bool → Hp → Prop} (h : Q true H) : tYes σ H Q := h
theorem lc_down {gs : Gs} {i : Nat} {oa oe : Fo} {Q : VK} (h : tO g EV (lcO gs i oa oe) σ H Q) :
    tLc (iList X.K (tO g EV oa)) (gName i) tYes (tO g (fun _ _ => False) oe) [i] σ H Q := by
  obtain ⟨rho, A, sd, hr, hs, h⟩ := h
  refine ⟨rho, A, sd, hr, hs, (stepO h).mono (fun x q rho1 H1 v e1 hr1 rv => ?_) fun _ _ z => z⟩
  have q0 := q rho1 H1 e1
  have key : ∃ a vs ds, v = .ref a ∧ H1 a = some (.lst vs) ∧ getL x.2 x.1 = some ds ∧ Rs g rho1 H1 ds vs := by
    cases hf : gs.fuel with
    | zero => rw [hf] at q0; exact q0.elim
    | succ m =>
      rw [hf] at q0
      simp only [lcLoop] at q0
      cases hg : getL (x.2 ++ [.lst []]) x.1 with
      | none => rw [hg] at q0; exact q0.elim
      | some ds =>
        have hg' : getL x.2 x.1 = some ds := by
          generalize hx : x.1 = dx at hg rv
          cases dx with
          | lst d => exact hg
          | nm n =>
            cases rv with
            | nm hn =>
              have hl : n < x.2.length := by rw [← hr1.len]; exact (List.getElem?_eq_some_iff.mp hn).1
              simp only [getL] at hg ⊢
              rw [List.getElem?_append_left hl] at hg
              exact hg
          | _ => cases hg
        obtain ⟨p, vs, rfl, hp, rs⟩ := getL_at hr1 rv hg'
        exact ⟨p, vs, ds, rfl, hp, hg', rs⟩
  obtain ⟨a, vs0, ds0, rfl, ha, hg0, rs0⟩ := key
  refine ⟨a, rfl, ⟨vs0, .of ha⟩, fun D hD => ?_⟩
  have eN := Ext.name (rho := rho1) (o := .lst []) hD
  refine ⟨fun k m H2 => ∃ rho2 A2, HR g rho2 H2 A2 ∧ RSt g rho2 H2 sd σ ∧ R g rho2 H2 x.1 (.ref a) ∧ rho2[x.2.length]? = some D ∧
    (lcLoop x.1 x.2.length (fun d A' => oe ((wipeD sd [i]).set i (some d)) A') m k A2).Sat (LcEnd g D x.2.length Q rho2 H2) (PostE g rho2 H2 EV), ⟨gs.fuel, ?_⟩, ?_⟩
  · refine ⟨rho1 ++ [D], x.2 ++ [.lst []], hr1.name (ao := .lst []) hD ⟨[], upd_same, .nil⟩, (hs.ext e1).ext eN, rv.ext eN, ?_, ?_⟩
    · rw [← hr1.len, List.getElem?_append_right (Nat.le_refl _), Nat.sub_self]; rfl
    · have z := T.Sat.bind (q (rho1 ++ [D]) _ (e1.trans eN))
      exact z.mono (fun A' w rho' H' e hr' hn => w rho' H' _ e hr' (.nm hn)) fun _ _ z => z
  · rintro k m H2 ⟨rho2, A2, hr2, hs2, rv2, hn2, w⟩
    cases m with
    | zero => exact w.elim
    | succ m =>
      simp only [lcLoop] at w
      cases hg : getL A2 x.1 with
      | none => rw [hg] at w; exact w.elim
      | some ds =>
        obtain ⟨p, vs, ep, hp, rs⟩ := getL_at hr2 rv2 hg
        cases ep
        simp only [hg] at w
        cases hk : ds[k]? with
        | none =>
          simp only [hk] at w
          refine .inl ⟨⟨vs, .of hp, ?_⟩, w rho2 H2 (Ext.refl _ _) hr2 hn2⟩
          rw [← rs.length]
          exact List.getElem?_eq_none_iff.mp hk
        | some d =>
          simp only [hk] at w
          obtain ⟨xv, hx, rx⟩ := rs.get hk
          refine .inr ⟨⟨vs, xv, .of hp, hx⟩, fun H' => ∃ rho2 A2, HR g rho2 H' A2 ∧ RSt g rho2 H' sd σ ∧ R g rho2 H' x.1 (.ref a) ∧ rho2[x.2.length]? = some D ∧
            (lcLoop x.1 x.2.length (fun d A' => oe ((wipeD sd [i]).set i (some d)) A') m (k + 1) A2).Sat (LcEnd g D x.2.length Q rho2 H') (PostE g rho2 H' EV), fun H' z => ⟨m, Nat.lt_succ_self _, z⟩, fun y H' hy => ?_⟩
          obtain ⟨rfl, hy⟩ := hy
          have ey : y = xv := by
            have := hy vs (.of hp)
            rw [hx] at this
            exact (Option.some.inj this).symm
          subst ey
          refine ⟨?_, ?_⟩
          · show ((σ.set i none).set i (some y)).set i none = σ.set i none
            rw [List.set_set, List.set_set]
          · refine tYes_run (iteYes ?_)
            refine ⟨rho2, A2, (wipeD sd [i]).set i (some d), hr2, (hs2.wipe [i]).set rx, ?_⟩
            have z := step (P := fun rho H => LcEnd g D x.2.length Q rho H) (EV := EV) (fun e => LcEnd.up e) w
            refine (T.Sat.nox z).mono (fun r z rho3 H3 yv e3 hr3 ry => ?_) fun _ _ z => z.elim
            have z := z rho3 H3 e3
            cases hpu : push x.2.length r.1 r.2 with
            | none => rw [hpu] at z; exact z.elim
            | some A3 =>
              simp only [hpu] at z
              have hn3 := e3.get hn2
              obtain ⟨acc, h1, h2, h3, e4⟩ := push_at hr3 hn3 ry hpu
              exact ⟨acc, h1, h2, rho3, A3, h3, (hs2.ext e3).ext e4, (rv2.ext e3).ext e4, hn3, T.Sat.mono z (fun _ y => LcEnd.up e4 y) fun _ _ y => PostE.up e4 y⟩
end
end Mi
/-! Mi5: built-ins, isinstance, attributes of exceptions, comprehensions over two lists. -/
namespace Mi
open PySem PySem.Spec PyProof.Rows L2
/-- a type as a value -/
def tv (g : Gv) : Tn → Value
  | .b n => .type n.nm
  | .o c => .ref (g.cls c)
/-- what the tables say of the text's classes -/
structure Fx (gs : Gs) (g : Gv) (K : PySem.W.Frag) : Prop where
  sub : ∀ t c b, gs.sub t c = some b → PySem.W.kitOne K (tv g t) (tv g c) = some b
  own : ∀ c t b, gs.sub (.o c) t = some b → ExcC K (g.cls c)
  fld : ∀ c f, hasF gs c f = true → XfC K (g.cls c) ∧ PySem.W.findIn K (.ref (g.cls c)) f = some none
section
variable {g : Gv} {EV : VK} {X : Cx} {σ : L2.St} {H : Hp} {rho : List Addr} {A : List AO}
/-! ### isinstance -/
theorem tyOf_at {pins : List (Addr × Obj)} {s : Shared} {t : Tn} {x : D} {v : V} {u : Value} (I : Inv X pins σ H s) (hr : HR g rho H A) (rx : R g rho H x v) (ru : RelV v u) (ht : tyOf A x = some t) (ho : ∀ c, t = .o c → ExcC X.K (g.cls c)) :
    ∃ P : Heap → Prop, PySem.W.KitX X.K u (tv g t) P ∧ P s.heap ∧ u ≠ .builtin "__main__.__loader__#opaque" := by
  cases rx with
  | non => cases ht; exact kit_of I ru (.base .non)
  | bl b => cases ht; exact kit_of I ru (.base (.bl b))
  | int i => cases ht; exact kit_of I ru (.base (.int i))
  | str x => cases ht; exact kit_of I ru (.base (.str x))
  | tup h r => cases ht; exact kit_of I ru (.base (.tup h.2))
  | lst h r => cases ht; exact kit_of I ru (.base (.lst h.2))
  | nm h =>
    simp only [tyOf] at ht
    split at ht
    · rename_i ds ha
      cases ht
      obtain ⟨vs, h1, h2⟩ := hr.at_ _ _ _ ha h
      exact kit_of I ru (.base (.lst h1))
    · cases ht
  | @xc c fs fvs p h r =>
    cases ht
    have C := ho c rfl
    cases (show u = Value.ref p from ru)
    obtain ⟨oe, d, hp, e1, hd, e2⟩ := h
    obtain ⟨_, ⟨oe', vs, h1, h2, h3, h4⟩, _⟩ := (show ObjOk X.prog X.w H s.heap p (.frz oe (XcO (g.cls c) d p)) from I.hok p _ e1)
    obtain ⟨mA, hns, _⟩ := (show ObjOk X.prog X.w H s.heap d (.xd fvs) from I.hok d _ e2)
    obtain ⟨od, hod, _⟩ := lookIn_ns hns
    have J : PySem.W.InstAt s.heap p oe' (g.cls c) (some od) := ⟨h1, h2, by unfold PySem.W.notCls; rw [h4], by rw [h3]; exact hod⟩
    obtain ⟨cd, hcd, _⟩ := PySem.W.any_some C.hd
    exact ⟨_, PySem.W.kitx_exc (by rw [hcd]; rfl) C.hg C.hk C.hs C.ha C.hn C.ht C.hm, J, fun z => nomatch z⟩
  | ty n => cases ht
  | cl c => cases ht
  | fn c => cases ht
  | ob h r => cases ht
  | dk h r => cases ht
  | scr h => cases ht
def rIsM (g : Gv) (K : PySem.W.Frag) : List V → Hp → VK → Prop := fun xs H Q => ∃ (rho : List Addr) (A : List AO) (x : D) (v c : V) (t : Tn) (u : Value) (b : Bool), xs = [v, c] ∧ HR g rho H A ∧ R g rho H x v ∧ tyOf A x = some t ∧
  (∀ c, t = .o c → ExcC K (g.cls c)) ∧ ClsV c u ∧ PySem.W.kitOne K (tv g t) u = some b ∧ Q (.bl b) H
theorem call_isM : CallR X (.builtin "isinstance") (rIsM g X.K) := by
  intro pins s σ H xs us Q I r h
  obtain ⟨rho, A, x, v, c, t, u, b, rfl, hr, rx, ht, ho, k, e, q⟩ := h
  obtain ⟨u1, u2, rfl, r1, r2⟩ := vals2 r
  have e2 := k.eq r2
  subst e2
  obtain ⟨P, Z, p, hx⟩ := tyOf_at I hr rx r1 ht ho
  exact PySem.W.kia_one Z I.kIn p e hx fun tk => ⟨.bl b, H, I.tok tk, rfl, q⟩
def tvV (g : Gv) : Tn → V
  | .b n => .ty n.nm
  | .o c => .ref (g.cls c)
theorem tv_cls : ∀ t : Tn, ClsV (tvV g t) (tv g t)
  | .b n => .ty n.nm
  | .o c => .own _
theorem pe_isiM {gs : Gs} (fx : Fx gs g X.K) {a c : Expr} {oa : Fo} {t : Tn} {p pos : Pos} (hg : Gl X "isinstance") (hm : X.mg "isinstance" = none) (ha : PE X a (tO g EV oa)) (hc : PE X c (tC (tvV g t)))
    (h1 : starEach [a, c] X.env = (false, eval a X.env) :: starEach [c] X.env) (h2 : starEach [c] X.env = (false, eval c X.env) :: starEach [] X.env) :
    PE X (.Call (.Name "isinstance" p) [a, c] [] pos) (tO g EV fun sd A => (oa sd A).bind fun x => match tyOf x.2 x.1 with
      | some t' => match anySub gs t' [t] with
        | some b => .ret (.bl b, x.2)
        | none => .bad
      | none => .bad) := pe_mono (pe_callB (call_isM (g := g)) hg hm (by decide +kernel) (pa_cons ha (pa_cons hc pa_nil h2) h1) (by decide) (by decide) h1 (by rw [h2]; rfl)) fun σ H Q q => by
  obtain ⟨rho, A, sd, hr, hs, z⟩ := tO_seq (f := fun x sd => match tyOf x.2 x.1 with
      | some t' => match anySub gs t' [t] with
        | some b => .ret (.bl b, x.2)
        | none => .bad
      | none => .bad) q
  refine ⟨rho, A, sd, hr, hs, z.mono (fun x q rho1 H1 v e1 hr1 rv => ?_) fun _ _ z => z⟩
  obtain ⟨rho, A, sd, d, hr, hs, r1, z⟩ := q rho1 H1 v e1 hr1 rv
  dsimp only at z
  split at z
  · rename_i t' ht
    split at z
    · rename_i b hb
      have hb' : gs.sub t' t = some b := by
        simp only [anySub] at hb
        split at hb
        · cases hb; assumption
        · cases hb; assumption
        · cases hb
      exact ⟨rho, A, d, v, tvV g t, t', tv g t, b, rfl, hr, r1, ht, fun c e => fx.own c t b (by rw [← e]; exact hb'), tv_cls t, fx.sub _ _ _ hb', Post.here z hr (.bl _)⟩
    · exact z.elim
  · exact z.elim
/-! ### an exception's attribute -/
theorem pe_fldM {gs : Gs} (fx : Fx gs g X.K) {a : Expr} {oa : Fo} {f : Str} {pos : Pos} (ha : PE X a (tO g EV oa)) (hb : attributeBase a f X.env (eval a X.env) = eval a X.env) :
    PE X (.Attribute a f pos) (tO g EV fun sd A => (oa sd A).bind fun x => evFld gs x.1 f x.2) := by
  refine ⟨fun pins s σ H Q I h => ?_⟩
  refine attr_of hb (thn (ha.run pins s σ H _ I (tO_seq (f := fun x sd => evFld gs x.1 f x.2) h)) fun u s1 hh => ?_)
  obtain ⟨v, H1, I1, ru, rho, A, sd, d, hr, hs, r1, z⟩ := hh
  dsimp only at z
  unfold evFld at z
  split at z
  · rename_i c fs
    split at z
    · rename_i hf
      split at z
      · rename_i e hl
        obtain ⟨T, hno⟩ := fx.fld c f hf
        cases r1 with
        | @xc _ _ fvs p h r =>
          cases (show u = Value.ref p from ru)
          obtain ⟨oe, dd, hp, e1, hd, e2⟩ := h
          obtain ⟨_, ⟨oe', vs, h1, h2, h3, h4⟩, _⟩ := (show ObjOk X.prog X.w H1 s1.heap p (.frz oe (XcO (g.cls c) dd p)) from I1.hok p _ e1)
          obtain ⟨mA, hns, hrl⟩ := (show ObjOk X.prog X.w H1 s1.heap dd (.xd fvs) from I1.hok dd _ e2)
          obtain ⟨od, hod, hlk⟩ := lookIn_ns hns
          have J : PySem.W.InstAt s1.heap p oe' (g.cls c) (some od) := ⟨h1, h2, by unfold PySem.W.notCls; rw [h4], by rw [h3]; exact hod⟩
          obtain ⟨w, hw, rw'⟩ := r.look hl
          obtain ⟨uu, hu, ruu⟩ := RelO.some_of (v := w) (o := mA f) (by rw [← hw]; exact hrl f)
          exact HandSPX.exc_get I1.kIn J T.ga T.gg T.exC (PySem.W.findObj_own T.hdC hno rfl (by rw [hlk, hu])) (handed_of ruu) ⟨w, H1, I1.tok _, ruu, Post.here z hr rw'⟩
      · exact z.elim
    · exact z.elim
  · exact z.elim
/-! ### built-in calls -/
def biR (K : PySem.W.Frag) : Bi → List V → Hp → VK → Prop
  | .len => fun xs H Q => (∃ p ys, xs = [.ref p] ∧ (SqL K H p ys ∨ SqT K H p ys) ∧ Q (.int ys.length) H) ∨ (∃ z, xs = [.str z] ∧ z.length ≤ sizeLine ∧ Q (.int z.length) H)
  | .all => rAll K
  | .int => fun xs H Q => (∃ i, xs = [.int i] ∧ Q (.int i) H) ∨ ∃ k, xs = [.bl k] ∧ Q (.int (if k then 1 else 0)) H
  | .sum => rSum K
  | .list => fun xs H Q => False
def biV : Bi → Value
  | .len => .builtin "len"
  | .all => .builtin "all"
  | .int => .type "int"
  | .sum => .builtin "sum"
  | .list => .type "list"
theorem call_bi (hc : X.calm = true) : ∀ b : Bi, CallR X (biV b) (biR X.K b)
  | .len => call_len_seq.or call_len_str
  | .all => cr_all hc
  | .int => call_int1
  | .sum => cr_sum hc
  | .list => fun _ _ _ _ _ _ _ _ _ h => h.elim
theorem allInts_at : ∀ {ds : List D} {vs : List V} {ns : List Int}, Rs g rho H ds vs → allInts ds = some ns → vs = ns.map V.int
  | _, _, _, .nil, e => by cases e; rfl
  | .int i :: ds, _, _, .cons (.int _) t, e => by
    simp only [allInts, Option.map_eq_some_iff] at e
    obtain ⟨ms, e, rfl⟩ := e
    rw [allInts_at t e]; rfl
theorem allBls_at : ∀ {ds : List D} {vs : List V} {ns : List Bool}, Rs g rho H ds vs → allBls ds = some ns → vs = ns.map V.bl
  | _, _, _, .nil, e => by cases e; rfl
  | .bl i :: ds, _, _, .cons (.bl _) t, e => by
    simp only [allBls, Option.map_eq_some_iff] at e
    obtain ⟨ms, e, rfl⟩ := e
    rw [allBls_at t e]; rfl
theorem Rs.one {d : D} {vs : List V} (r : Rs g rho H [d] vs) : ∃ v, vs = [v] ∧ R g rho H d v := by
  cases r with
  | cons h t => cases t; exact ⟨_, rfl, h⟩
theorem vr_bi {b : Bi} {xs : List D} {vs : List V} {Q : VK} (hr : HR g rho H A) (r : Rs g rho H xs vs) (h : (evBi b A xs).Sat (Post g rho H Q) (PostE g rho H EV)) : biR X.K b vs H Q := by
  unfold evBi at h
  split at h
  · obtain ⟨v, rfl, rv⟩ := r.one
    cases rv
    split at h
    · exact .inr ⟨_, rfl, line5 ‹_›, Post.here h hr (.int _)⟩
    · exact h.elim
  · obtain ⟨v, rfl, rv⟩ := r.one
    cases rv with
    | tup hf rs => exact .inl ⟨_, _, rfl, .inr (.of hf.2), by have := Post.here h hr (.int _); rwa [rs.length] at this⟩
  · obtain ⟨v, rfl, rv⟩ := r.one
    split at h
    · rename_i e1
      obtain ⟨p, ys, rfl, hp, rs⟩ := getL_at hr rv e1
      exact .inl ⟨_, _, rfl, .inl (.of hp), by have := Post.here h hr (.int _); rwa [rs.length] at this⟩
    · exact h.elim
  · obtain ⟨v, rfl, rv⟩ := r.one
    split at h
    · rename_i e1
      obtain ⟨p, ys, rfl, hp, rs⟩ := getL_at hr rv e1
      split at h
      · rename_i e2
        have := allBls_at rs e2
        subst this
        exact ⟨p, _, rfl, .of hp, Post.here h hr (.bl _)⟩
      · exact h.elim
    · exact h.elim
  · obtain ⟨v, rfl, rv⟩ := r.one
    cases rv
    exact .inl ⟨_, rfl, Post.here h hr (.int _)⟩
  · obtain ⟨v, rfl, rv⟩ := r.one
    cases rv
    exact .inr ⟨_, rfl, Post.here h hr (.int _)⟩
  · obtain ⟨v, rfl, rv⟩ := r.one
    split at h
    · rename_i e1
      obtain ⟨p, ys, rfl, hp, rs⟩ := getL_at hr rv e1
      split at h
      · rename_i e2
        have := allInts_at rs e2
        subst this
        exact ⟨p, _, rfl, .of hp, Post.here h hr (.int _)⟩
      · exact h.elim
    · exact h.elim
  · exact h.elim
def biS : Bi → Str
  | .len => "len" | .all => "all" | .int => "int" | .sum => "sum" | .list => "list"
theorem pe_biM {b : Bi} {e : Expr} {es : List Expr} {os : Sd → List AO → T (List D × List AO)} {p pos : Pos} (hc : X.calm = true) (hg : Gl X (biS b)) (hm : X.mg (biS b) = none) (ha : PA X (e :: es) (tOs g EV os))
    (he : starEach (e :: es) X.env = (false, eval e X.env) :: starEach es X.env) (hpl : (backTo pos (starEach es X.env)).any (·.1) = false) :
    PE X (.Call (.Name (biS b) p) (e :: es) [] pos) (tO g EV fun sd A => (os sd A).bind fun x => evBi b x.2 x.1) := by
  have h : PE X (.Call (.Name (biS b) p) (e :: es) [] pos) (tCB (biR X.K b) (tOs g EV os)) := by
    cases b with
    | len => exact pe_callB (call_bi hc .len) hg hm (by decide +kernel) ha (by decide) (by decide) he hpl
    | all => exact pe_callB (call_bi hc .all) hg hm (by decide +kernel) ha (by decide) (by decide) he hpl
    | int => exact pe_callTy (call_bi hc .int) hg hm (by decide +kernel) ha (by decide) (by decide) he hpl
    | sum => exact pe_callB (call_bi hc .sum) hg hm (by decide +kernel) ha (by decide) (by decide) he hpl
    | list => exact pe_callTy (call_bi hc .list) hg hm (by decide +kernel) ha (by decide) (by decide) he hpl
  refine pe_mono h fun σ H Q q => ?_
  obtain ⟨rho, A, sd, hr, hs, z⟩ := tOs_seq (f := fun x sd => evBi b x.2 x.1) q
  refine ⟨rho, A, sd, hr, hs, z.mono (fun x q rho1 H1 v e1 hr1 rv => ?_) fun _ _ z => z⟩
  obtain ⟨rho, A, sd, d, hr, hs, r1, z⟩ := q rho1 H1 v e1 hr1 rv
  exact vr_bi hr r1 z
/-! ### two lists side by side -/
def lczO (gs : Gs) (i j : Nat) (oa ob : Fo) (oe : Fo) : Fo := fun sd A => (oa sd A).bind fun x => (ob sd x.2).bind fun y =>
  (lczLoop x.1 y.1 y.2.length (fun d d' A' => oe (((wipeD sd [i, j]).set i (some d)).set j (some d')) A') gs.fuel 0 (y.2 ++ [.lst []])).bind fun A' => .ret (.nm y.2.length, A')
theorem getL_down {n0 : List D} {d : D} {v : V} {ds : List D} (hr : HR g rho H A) (rv : R g rho H d v) (h : getL (A ++ [.lst n0]) d = some ds) : getL A d = some ds := by
  cases d with
  | lst d => exact h
  | nm n =>
    cases rv with
    | nm hn =>
      have hl : n < A.length := by rw [← hr.len]; exact (List.getElem?_eq_some_iff.mp hn).1
      simp only [getL] at h ⊢
      rw [List.getElem?_append_left hl] at h
      exact h
  | _ => cases h
theorem wipe2 {i j : Nat} (v w : V) : L2.wipe (((L2.wipe σ [i, j]).set i (some v)).set j (some w)) [i, j] = L2.wipe σ [i, j] := by
  show (((((σ.set j none).set i none).set i (some v)).set j (some w)).set j none).set i none = (σ.set j none).set i none
  rw [List.set_set, List.set_set]
  by_cases h : i = j
  · subst h; simp
  · rw [List.set_comm _ _ h, List.set_set, List.set_set]
/-- two rows side by side, whatever they are -/
def ItzG (SQ : Hp → Addr → List V → Prop) (a b : Addr) : It :=
  ⟨fun i H => ∃ (xs ys : List V) (x y : V), SQ H a xs ∧ SQ H b ys ∧ xs[i]? = some x ∧ ys[i]? = some y,
    fun i H v H' => ∃ T x y, v = .ref T ∧ H T = none ∧ H' = upd H T (.tup [x, y]) ∧ (∀ xs, SQ H a xs → xs[i]? = some x) ∧ ∀ ys, SQ H b ys → ys[i]? = some y,
    fun i H => ∃ xs ys : List V, SQ H a xs ∧ SQ H b ys ∧ (xs.length ≤ i ∨ ys.length ≤ i)⟩
theorem pairL_at (hr : HR g rho H A) {x y : D} {a b : V} {xs ys : List D} (rx : R g rho H x a) (ry : R g rho H y b) (h : pairSeq A x y = some (xs, ys)) :
    (∃ t, x = .tup t ∧ ∃ p q vs ws, a = .ref p ∧ b = .ref q ∧ H p = some (.tup vs) ∧ H q = some (.tup ws) ∧ Rs g rho H xs vs ∧ Rs g rho H ys ws) ∨
    ((∀ t, x ≠ .tup t) ∧ ∃ p q vs ws, a = .ref p ∧ b = .ref q ∧ H p = some (.lst vs) ∧ H q = some (.lst ws) ∧ Rs g rho H xs vs ∧ Rs g rho H ys ws) := by
  unfold pairSeq at h
  split at h
  · rename_i t
    split at h
    · cases h
      cases rx with
      | tup hx rsx => cases ry with
        | tup hy rsy => exact .inl ⟨_, rfl, _, _, _, _, rfl, rfl, hx.2, hy.2, rsx, rsy⟩
    · cases h
  · rename_i nt
    split at h
    · rename_i e1 e2
      cases h
      obtain ⟨p, vs, rfl, hp, r1⟩ := getL_at hr rx e1
      obtain ⟨q, ws, rfl, hq, r2⟩ := getL_at hr ry e2
      exact .inr ⟨fun t e => nt t e, _, _, _, _, rfl, rfl, hp, hq, r1, r2⟩
    · cases h
theorem lcz_core {gs : Gs} {i j : Nat} {oe : Fo} {Q : VK} {SQ : Hp → Addr → List V → Prop} {dx dy : D} {sd : Sd} {a b : Addr} (hr2 : HR g rho H A) (hs : RSt g rho H sd σ) (rx : R g rho H dx (.ref a)) (ry : R g rho H dy (.ref b))
    (hsq : ∀ {rho : List Addr} {H : Hp} {A : List AO} {xs ys : List D}, HR g rho H A → R g rho H dx (.ref a) → R g rho H dy (.ref b) → pairSeq A dx dy = some (xs, ys) → ∃ vs ws, SQ H a vs ∧ SQ H b ws ∧ Rs g rho H xs vs ∧ Rs g rho H ys ws)
    (huq : ∀ {H : Hp} {c : Addr} {vs ws : List V}, SQ H c vs → (∀ us, SQ H c us → us = vs) → True) (K : PySem.W.Frag) (hT : ∀ {H : Hp} {T : Addr} {x y : V}, H T = none → SqT K (upd H T (.tup [x, y])) T [x, y])
    (q : ∀ rho' H', Ext rho H rho' H' → ((lczLoop dx dy A.length (fun d d' A' => oe (((wipeD sd [i, j]).set i (some d)).set j (some d')) A') gs.fuel 0 (A ++ [.lst []])).bind fun A' => .ret (.nm A.length, A')).Sat (Post g rho' H' Q) (PostE g rho' H' EV)) :
    ∀ D, H D = none → ∃ W : Nat → Nat → Hp → Prop, (∃ m, W 0 m (upd H D (.lst []))) ∧ ∀ k m H3, W k m H3 →
      ((ItzG SQ a b).stop k H3 ∧ Q (.ref D) H3) ∨ ((ItzG SQ a b).go k H3 ∧ ∃ Nx : Hp → Prop, (∀ H', Nx H' → ∃ m', m' < m ∧ W (k + 1) m' H') ∧ ∀ z H', (ItzG SQ a b).yld k H3 z H' → gTup K 2 (gCons (gName i) (gCons (gName j) gNil)) z (L2.wipe σ [i, j]) H' fun σ2 H2 => L2.wipe σ2 [i, j] = L2.wipe σ [i, j] ∧
        tYes σ2 H2 fun c H4 => if c = true then tO g (fun _ _ => False) oe σ2 H4 fun y H5 => ∃ acc, H5 D = some (.lst acc) ∧ acc.length < sizeLine ∧ Nx (upd H5 D (.lst (acc ++ [y]))) else Nx H4) := by
  intro D hD
  have eN := Ext.name (rho := rho) (o := .lst []) hD
  refine ⟨fun k m H3 => ∃ rho3 A3, HR g rho3 H3 A3 ∧ RSt g rho3 H3 sd σ ∧ R g rho3 H3 dx (.ref a) ∧ R g rho3 H3 dy (.ref b) ∧ rho3[A.length]? = some D ∧
    (lczLoop dx dy A.length (fun d d' A' => oe (((wipeD sd [i, j]).set i (some d)).set j (some d')) A') m k A3).Sat (LcEnd g D A.length Q rho3 H3) (PostE g rho3 H3 EV), ⟨gs.fuel, ?_⟩, ?_⟩
  · refine ⟨rho ++ [D], A ++ [.lst []], hr2.name (ao := .lst []) hD ⟨[], upd_same, .nil⟩, hs.ext eN, rx.ext eN, ry.ext eN, ?_, ?_⟩
    · rw [← hr2.len, List.getElem?_append_right (Nat.le_refl _), Nat.sub_self]; rfl
    · have z := T.Sat.bind (q (rho ++ [D]) _ eN)
      exact z.mono (fun A' w rho' H' e hr' hn => w rho' H' _ e hr' (.nm hn)) fun _ _ z => z
  · rintro k m H3 ⟨rho3, A3, hr3, hs3, rv3, rw3, hn3, w⟩
    cases m with
    | zero => exact w.elim
    | succ m =>
      simp only [lczLoop] at w
      cases hg : pairSeq A3 dx dy with
      | none => rw [hg] at w; exact w.elim
      | some pr =>
        obtain ⟨ds, ds'⟩ := pr
        obtain ⟨vs, vs', hp, hp', rs, rs'⟩ := hsq hr3 rv3 rw3 hg
        simp only [hg] at w
        have stop : (ds[k]? = none ∨ ds'[k]? = none) → (LcEnd g D A.length Q rho3 H3 A3) → ((ItzG SQ a b).stop k H3 ∧ Q (.ref D) H3) := fun hk w => by
          refine ⟨⟨vs, vs', hp, hp', ?_⟩, w rho3 H3 (Ext.refl _ _) hr3 hn3⟩
          rw [← rs.length, ← rs'.length]
          rcases hk with hk | hk
          · exact .inl (List.getElem?_eq_none_iff.mp hk)
          · exact .inr (List.getElem?_eq_none_iff.mp hk)
        cases hk : ds[k]? with
        | none => simp only [hk] at w; exact .inl (stop (.inl hk) w)
        | some d =>
          cases hk' : ds'[k]? with
          | none => simp only [hk, hk'] at w; exact .inl (stop (.inr hk') w)
          | some d' =>
            simp only [hk, hk'] at w
            obtain ⟨xv, hx, rx'⟩ := rs.get hk
            obtain ⟨yv, hy, ry'⟩ := rs'.get hk'
            refine .inr ⟨⟨vs, vs', xv, yv, hp, hp', hx, hy⟩, fun H' => ∃ rho3 A3, HR g rho3 H' A3 ∧ RSt g rho3 H' sd σ ∧ R g rho3 H' dx (.ref a) ∧ R g rho3 H' dy (.ref b) ∧ rho3[A.length]? = some D ∧
              (lczLoop dx dy A.length (fun d d' A' => oe (((wipeD sd [i, j]).set i (some d)).set j (some d')) A') m (k + 1) A3).Sat (LcEnd g D A.length Q rho3 H') (PostE g rho3 H' EV), fun H' z => ⟨m, Nat.lt_succ_self _, z⟩, fun z H' hz => ?_⟩
            obtain ⟨tt, x', y', rfl, hTT, rfl, hx', hy'⟩ := hz
            have ex : x' = xv := by
              have := hx' vs hp
              rw [hx] at this
              exact (Option.some.inj this).symm
            have ey : y' = yv := by
              have := hy' vs' hp'
              rw [hy] at this
              exact (Option.some.inj this).symm
            subst ex ey
            have eT := Ext.new (rho := rho3) (o := .tup [x', y']) hTT
            refine ⟨tt, [x', y'], rfl, hT hTT, rfl, x', [y'], rfl, y', [], rfl, rfl, wipe2 x' y', ?_⟩
            refine tYes_run (iteYes ?_)
            refine ⟨rho3, A3, ((wipeD sd [i, j]).set i (some d)).set j (some d'), hr3.new hTT, ((((hs3.ext eT).wipe [i, j]).set (rx'.ext eT)).set (ry'.ext eT)), ?_⟩
            have z := step (P := fun rho H => LcEnd g D A.length Q rho H) (EV := EV) (fun e => LcEnd.up e) w
            refine (T.Sat.nox z).mono (fun r z rho4 H4 yv4 e4 hr4 ry4 => ?_) fun _ _ z => z.elim
            have z := z rho4 H4 (eT.trans e4)
            cases hpu : push A.length r.1 r.2 with
            | none => rw [hpu] at z; exact z.elim
            | some A5 =>
              simp only [hpu] at z
              have hn4 := (eT.trans e4).get hn3
              obtain ⟨acc, h1, h2, h3, e5⟩ := push_at hr4 hn4 ry4 hpu
              have e35 := (eT.trans e4).trans e5
              exact ⟨acc, h1, h2, rho4, A5, h3, hs3.ext e35, rv3.ext e35, rw3.ext e35, e5.get hn4, z.mono (fun _ y => LcEnd.up e5 y) fun _ _ y => PostE.up e5 y⟩
theorem pair_down {n0 : List D} {x y : D} {a b : V} {pr : List D × List D} (hr : HR g rho H A) (rx : R g rho H x a) (ry : R g rho H y b) (h : pairSeq (A ++ [.lst n0]) x y = some pr) : pairSeq A x y = some pr := by
  unfold pairSeq at h ⊢
  split at h
  · exact h
  · split at h
    · rename_i e1 e2
      rw [getL_down hr rx e1, getL_down hr ry e2]
      exact h
    · cases h
theorem lcz_down {gs : Gs} {i j : Nat} {oa ob oe : Fo} {Q : VK} (h : tO g EV (lczO gs i j oa ob oe) σ H Q) :
    tLc (RZ.iZipA X.K (tCons (tO g EV oa) (tCons (tO g EV ob) tNil))) (gTup X.K 2 (gCons (gName i) (gCons (gName j) gNil))) tYes (tO g (fun _ _ => False) oe) [i, j] σ H Q := by
  obtain ⟨rho, A, sd, hr, hs, h⟩ := h
  refine ⟨rho, A, sd, hr, hs, (stepO h).mono (fun x q rho1 H1 v e1 hr1 rv1 => ?_) fun _ _ z => z⟩
  refine ⟨rho1, x.2, sd, hr1, hs.ext e1, (stepO (q rho1 H1 e1)).mono (fun y q rho2 H2 w e2 hr2 rw2 => ?_) fun _ _ z => z⟩
  replace hs := (hs.ext e1).ext e2
  replace rv1 := rv1.ext e2
  show ∃ a b xs ys, [v, w] = [.ref a, .ref b] ∧ _
  have q0 := q rho2 H2 e2
  have key : ∃ xs ys, pairSeq y.2 x.1 y.1 = some (xs, ys) := by
    cases hf : gs.fuel with
    | zero => rw [hf] at q0; exact q0.elim
    | succ m =>
      rw [hf] at q0
      simp only [lczLoop] at q0
      cases hg : pairSeq (y.2 ++ [.lst []]) x.1 y.1 with
      | none => rw [hg] at q0; exact q0.elim
      | some pr => exact ⟨pr.1, pr.2, pair_down hr2 rv1 rw2 hg⟩
  obtain ⟨xs0, ys0, hg1⟩ := key
  have qq : ∀ rho' H', Ext rho2 H2 rho' H' → ((lczLoop x.1 y.1 y.2.length (fun d d' A' => oe (((wipeD sd [i, j]).set i (some d)).set j (some d')) A') gs.fuel 0 (y.2 ++ [.lst []])).bind fun A' => .ret (.nm y.2.length, A')).Sat (Post g rho' H' Q) (PostE g rho' H' EV) :=
    fun rho' H' e => q rho' H' (e2.trans e)
  rcases pairL_at hr2 rv1 rw2 hg1 with ⟨t, et, a, b, vs1, vs2, rfl, rfl, ha, hb, rs1, rs2⟩ | ⟨nt, a, b, vs1, vs2, rfl, rfl, ha, hb, rs1, rs2⟩
  · refine ⟨a, b, vs1, vs2, rfl, .inr ⟨.of ha, .of hb, ?_⟩⟩
    exact lcz_core (gs := gs) (SQ := SqT X.K) hr2 hs rv1 rw2 (fun hr rx ry hp => by
      rcases pairL_at hr rx ry hp with ⟨_, _, p, q, vs, ws, e1, e2, h1, h2, h3, h4⟩ | ⟨nt, _⟩
      · cases e1; cases e2; exact ⟨vs, ws, .of h1, .of h2, h3, h4⟩
      · exact absurd et (nt t)) (fun _ _ => trivial) X.K (fun _ => .of upd_same) qq
  · refine ⟨a, b, vs1, vs2, rfl, .inl ⟨.of ha, .of hb, ?_⟩⟩
    exact lcz_core (gs := gs) (SQ := SqL X.K) hr2 hs rv1 rw2 (fun hr rx ry hp => by
      rcases pairL_at hr rx ry hp with ⟨t, et, _⟩ | ⟨_, p, q, vs, ws, e1, e2, h1, h2, h3, h4⟩
      · exact absurd et (nt t)
      · cases e1; cases e2; exact ⟨vs, ws, .of h1, .of h2, h3, h4⟩) (fun _ _ => trivial) X.K (fun _ => .of upd_same) qq
end
end Mi
/-! Mi6: the text's expressions, read by the interpreter: a small compiler and its proof. -/
namespace Mi
open PySem PySem.Spec PyProof.Rows L2
/-- what a global name stands for -/
inductive Gn where
  | fn (f : Nat) | cl (c : Nat) | bi (b : Bi) | isi | zip | ty (n : Bt)
structure Cc where
  N : List Str
  sc : Scope
  gl : Str → Option Gn
/-- a def's promise -/
def spM (g : Gv) (F : Fn) (f : Nat) : Sp := fun vs H Q _ => ∃ rho A ds, HR g rho H A ∧ Rs g rho H ds vs ∧ (F f ds A).Sat (Post g rho H Q) (fun _ _ => False)
structure FnH (X : Cx) (g : Gv) (F : Fn) (f : Nat) (x : Str) : Prop where
  mg : X.mg x = some (.ref (g.fns f))
  run : ∃ (CX : CXT) (k : Nat) (fd : FuncData) (ps : List Str), (∀ outer H s e s', CX outer H s (fun _ _ _ => False) e s' → False) ∧
    FnOk X.prog X.w X.K X.mg X.base CX k (g.fns f) fd ps (fun vs H Q E => vs.length = ps.length ∧ spM g F f vs H Q E) ∧ Room k X.A ∧ PySem.W.keepIn X.K (.ref (g.fns f)) = true ∧ Binds X.K fd ps [] ∧
    ∀ ds A P E, (F f ds A).Sat P E → ds.length = ps.length
/-- a class of exceptions is called -/
structure XcR (X : Cx) (g : Gv) (gs : Gs) : Prop where
  run0 : ∀ c tag, gs.xcl c = some (tag, none) → ∀ (pins : List (Addr × Obj)) (s : Shared) (σ : L2.St) (H : Hp) (Q : VK), Inv X pins σ H s →
    (∀ p dd oe, H p = none → H dd = none → dd ≠ p → Q (.ref p) (upd (upd H dd (.xd [("tag", .str tag)])) p (.frz oe (XcO (g.cls c) dd p)))) →
    wpAny (model X.prog X.w) X.A (call (.ref (g.cls c)) []) (EP X pins σ Q) X.xe s
  run1 : ∀ c tag f, gs.xcl c = some (tag, some f) → ∀ (pins : List (Addr × Obj)) (s : Shared) (σ : L2.St) (H : Hp) (Q : VK) (v : V) (u : Value) (us : List Value) (kw : List (Str × Value)), Inv X pins σ H s → RelV v u → ((us = [u] ∧ kw = []) ∨ (us = [] ∧ kw = [(f, u)])) →
    (∀ p dd oe, H p = none → H dd = none → dd ≠ p → Q (.ref p) (upd (upd H dd (.xd [("tag", .str tag), (f, v)])) p (.frz oe (XcO (g.cls c) dd p)))) →
    wpAny (model X.prog X.w) X.A (call (.ref (g.cls c)) us kw) (EP X pins σ Q) X.xe s
/-- contexts within one def -/
structure SameC (X Y : Cx) : Prop where
  p : Y.prog = X.prog
  w : Y.w = X.w
  k : Y.K = X.K
  m : Y.mg = X.mg
  b : Y.base = X.base
  a : Y.A = X.A
  c : Y.calm = X.calm
structure XcH (X : Cx) (g : Gv) (gs : Gs) : Prop where
  kp : ∀ c q, gs.xcl c = some q → PySem.W.keepIn X.K (.ref (g.cls c)) = true
  run : ∀ Y, SameC X Y → XcR Y g gs
structure Good (X : Cx) (c : Cc) (g : Gv) (gs : Gs) (F : Fn) : Prop where
  calm : X.calm = true
  nd : X.N.Nodup
  hN : X.N = c.N
  hsc : X.env.scope = c.sc
  fk : c.sc.kind = .function
  hu : X.A.units + 64 < cLine
  fx : Fx gs g X.K
  fn : ∀ x f, c.gl x = some (.fn f) → FnH X g F f x
  cl : ∀ x k, c.gl x = some (.cl k) → X.mg x = some (.ref (g.cls k))
  kp : ∀ x k, c.gl x = some (.cl k) → PySem.W.keepIn X.K (.ref (g.cls k)) = true
  bi : ∀ x b, c.gl x = some (.bi b) → x = biS b ∧ X.mg x = none
  isi : ∀ x, c.gl x = some .isi → x = "isinstance" ∧ X.mg x = none
  zip : ∀ x, c.gl x = some .zip → x = "zip" ∧ X.mg x = none
  ty : ∀ x n, c.gl x = some (.ty n) → X.mg x = none ∧ bootBuiltins x = some (.type n.nm) ∧ x ≠ "__name__"
  dbg : ∀ x q, c.gl x = some q → (x == ("__debug__" : Str)) = false
  xc : XcH X g gs
/-! ### names -/
def posIn (x : Str) : List Str → Option Nat
  | [] => none
  | y :: r => if y = x then some 0 else (posIn x r).map (· + 1)
theorem posIn_ok {x : Str} : ∀ {l : List Str} {i : Nat}, posIn x l = some i → l[i]? = some x
  | y :: r, i, h => by
    unfold posIn at h
    split at h
    · cases h; subst y; rfl
    · rw [Option.map_eq_some_iff] at h
      obtain ⟨j, h, rfl⟩ := h
      exact posIn_ok (l := r) h
def visB (sc : Scope) (x : Str) : Bool := match sc.names.lookup x with
  | some .local => true
  | some .cell => true
  | some .free => true
  | _ => false
theorem visB_ok {sc : Scope} {x : Str} (h : visB sc x = true) : Vis sc x := by
  unfold visB at h
  split at h
  · exact .inl ‹_›
  · exact .inr (.inl ‹_›)
  · exact .inr (.inr ‹_›)
  · cases h
def slotOf (c : Cc) (x : Str) : Option Nat := if visB c.sc x && (!(x == ("__debug__" : Str)) && !(x == ("__classdict__" : Str))) then posIn x c.N else none
def glOf (c : Cc) (x : Str) : Option Gn := if c.sc.names.lookup x = some .globalImplicit then c.gl x else none
section
variable {X : Cx} {c : Cc} {g : Gv} {gs : Gs} {F : Fn} {EV : VK}
theorem slot_ok (G : Good X c g gs F) {x : Str} {i : Nat} {pos : Pos} (h : slotOf c x = some i) : PE X (.Name x pos) (tVar i) := by
  unfold slotOf at h
  split at h
  · rename_i q
    rw [Bool.and_eq_true, Bool.and_eq_true, Bool.not_eq_true', Bool.not_eq_true'] at q
    exact pe_var (by rw [G.hN]; exact posIn_ok h) (by rw [G.hsc]; exact visB_ok q.1) q.2.1 q.2.2
  · cases h
theorem gl_ok (G : Good X c g gs F) {x : Str} {q : Gn} (h : glOf c x = some q) : Gl X x ∧ c.gl x = some q := by
  unfold glOf at h
  split at h
  · rename_i e
    exact ⟨by show X.env.scope.names.lookup x = _; rw [G.hsc]; exact e, h⟩
  · cases h
/-! ### the compiler -/
def bopOf : Operator → Option Bop
  | .Add => some .add | .Sub => some .sub | .Mult => some .mul | .Mod => some .mod | .FloorDiv => some .fdiv | .Pow => some .pow
  | _ => none
theorem bopOf_ok {o : Operator} {b : Bop} (h : bopOf o = some b) : o = opOf b := by cases o <;> cases h <;> rfl
def copOf' : CmpOp → Option Cop
  | .Eq => some .eq | .NotEq => some .ne | .Lt => some .lt | .LtE => some .le | .Gt => some .gt | .GtE => some .ge | .Is => some .isn | .IsNot => some .isnn | .In => some .inn | .NotIn => some .notin
theorem copOf_ok {o : CmpOp} {b : Cop} (h : copOf' o = some b) : o = copOf b := by cases o <;> cases h <;> rfl
def noStar : Expr → Bool
  | .Starred _ _ => false
  | _ => true
def noSlice : Expr → Bool
  | .Slice _ _ _ _ => false
  | _ => true
def noSet : Expr → Bool
  | .Set _ _ _ => false
  | _ => true
def noCall0 : Expr → Bool
  | .Call _ [] [] _ => false
  | _ => true
theorem star_ok {e : Expr} {es : List Expr} {env : Env} (h : noStar e = true) : starEach (e :: es) env = (false, eval e env) :: starEach es env := by cases e <;> first | rfl | cases h
theorem nostars {env : Env} {pos : Pos} : ∀ {es : List Expr}, es.all noStar = true → (backTo pos (starEach es env)).any (·.1) = false
  | [], _ => rfl
  | e :: es, h => by
    rw [List.all_cons, Bool.and_eq_true] at h
    rw [star_ok h.1]
    show (false || (backTo pos (starEach es env)).any (·.1)) = false
    rw [nostars h.2]; rfl
theorem plain_ok {e : Expr} (h : noSlice e = true) : PlainIx e := by
  intro o i
  cases e <;> first | rfl | cases h
theorem behind_ok {o : CmpOp} {e : Expr} (h : noSet e = true) : behindInMarks o e = false := by cases e <;> first | rfl | cases h
theorem fold_ok {e : Expr} {env : Env} (h : noSet e = true) : ∀ x, foldedSetIterable e env x = pure x := by intro x; cases e <;> first | rfl | cases h
theorem base_ok {e : Expr} {f : Str} {env : Env} (h : noCall0 e = true) : attributeBase e f env (eval e env) = eval e env := by
  cases e with
  | Call fn args kws pos =>
    cases args with
    | nil =>
      cases kws with
      | nil => cases h
      | cons => cases fn <;> rfl
    | cons => cases fn <;> rfl
  | _ => rfl
def typeOfName (c : Cc) : Expr → Option Tn
  | .Name x _ => match glOf c x with
    | some (.cl k) => some (.o k)
    | some (.ty n) => some (.b n)
    | some (.bi .int) => some (.b .int)
    | some (.bi .list) => some (.b .lst)
    | _ => none
  | _ => none
def constD : Const → Option D
  | .none => some .non
  | .bool b => some (.bl b)
  | .int i => some (.int i)
  | .str s => some (.str s)
  | _ => none
def cEl (f : Expr → Option E) : List Expr → Option (List E)
  | [] => some []
  | e :: es => if noStar e then match f e, cEl f es with
    | some m, some ms => some (m :: ms)
    | _, _ => none
    else none
def inBlk (c : Cc) (scope : Scope) : Cc := { c with sc := relS scope c.sc }
def cE : Nat → Cc → Expr → Option E
  | 0, _, _ => none
  | n + 1, c, e => match e with
    | .Name x _ => match slotOf c x with
      | some i => some (.sl i)
      | none => match glOf c x with
        | some (.fn f) => some (.k (.fn f))
        | some (.cl k) => some (.k (.cl k))
        | _ => none
    | .Constant k _ _ => (constD k).map .k
    | .BinOp a o b _ => match bopOf o, cE n c a, cE n c b with
      | some o, some a, some b => some (.bin o a b)
      | _, _, _ => none
    | .Compare a [o] [b] _ => if noSet b then match copOf' o, cE n c a, cE n c b with
      | some o, some a, some b => some (.cmp o a b)
      | _, _, _ => none
      else none
    | .BoolOp .And (e :: es) _ => (cEl (cE n c) (e :: es)).map .and
    | .BoolOp .Or (e :: es) _ => (cEl (cE n c) (e :: es)).map .or
    | .UnaryOp .Not a _ => (cE n c a).map .not
    | .IfExp t a b _ => match cE n c t, cE n c a, cE n c b with
      | some t, some a, some b => some (.ife t a b)
      | _, _, _ => none
    | .Tuple es _ _ => (cEl (cE n c) es).map .tup
    | .List es _ => (cEl (cE n c) es).map .lst
    | .Attribute a f _ => if noCall0 a then (cE n c a).map (.fld · f) else none
    | .Subscript a b _ => if noSlice b then match cE n c a, cE n c b with
      | some a, some b => some (.ix a b)
      | _, _ => none
      else none
    | .Call (.Name x _) args kws _ => match glOf c x, args, kws with
      | some (.fn f), a :: as, [] => (cEl (cE n c) (a :: as)).map (.call f)
      | some (.bi b), a :: as, [] => (cEl (cE n c) (a :: as)).map (.bi b)
      | some (.cl k), [], [] => some (.xc k [])
      | some (.cl k), [a], [] => (cEl (cE n c) [a]).map (.xc k)
      | some (.cl k), [], [⟨some y, a, _⟩] => (cE n c a).map fun a => .xck k y a
      | some .isi, [a, t], [] => if noStar a then match cE n c a, typeOfName c t with
        | some a, some t => some (.isi a [t])
        | _, _ => none
        else none
      | _, _, _ => none
    | .ListComp elt [⟨.Name y _, src, [], 0⟩] scope _ => if noSet src then match posIn y c.N, cE n c src, cE n (inBlk c scope) elt with
        | some i, some src, some elt => if blkC c.N c.sc scope [(y, i)] && (visL (relS scope c.sc) y) then some (.lc i src elt) else none
        | _, _, _ => none
      else none
    | .ListComp elt [⟨.Tuple [.Name y _, .Name z _] _ _, .Call (.Name x _) [a, b] [] _, [], 0⟩] scope _ => if noStar a && noStar b then match glOf c x, posIn y c.N, posIn z c.N, cE n c a, cE n c b, cE n (inBlk c scope) elt with
        | some .zip, some i, some j, some a, some b, some elt => if blkC c.N c.sc scope [(y, i), (z, j)] && (visL (relS scope c.sc) y && visL (relS scope c.sc) z) then some (.lcz i j a b elt) else none
        | _, _, _, _, _, _ => none
      else none
    | _ => none
where visL (sc : Scope) (x : Str) : Bool := match sc.names.lookup x with
  | some .local => true
  | _ => false
end
end Mi
/-! Mi7: what the compiler gives, the text does. -/
namespace Mi
open PySem PySem.Spec PyProof.Rows L2
section
variable {X : Cx} {c : Cc} {g : Gv} {gs : Gs} {F : Fn} {EV : VK}
theorem SameC.trans {X Y Z : Cx} (a : SameC X Y) (b : SameC Y Z) : SameC X Z := ⟨b.p.trans a.p, b.w.trans a.w, b.k.trans a.k, b.m.trans a.m, b.b.trans a.b, b.a.trans a.a, b.c.trans a.c⟩
theorem SameC.blk {X : Cx} {s : Shared} {H : Hp} {scope : Scope} {cenv : Env} {fp : List Addr} : SameC X (X.blk s H scope cenv fp) := ⟨rfl, rfl, rfl, rfl, rfl, rfl, rfl⟩
/-- a comprehension's block -/
theorem Good.blk (G : Good X c g gs F) {scope : Scope} {own : List (Str × Nat)} (ok : BlkOk X.N X.env.scope scope own) (s : Shared) (H : Hp) (C : Addr) (cl : List (Str × Addr)) (fp : List Addr) :
    Good (X.blk s H scope (compEnvC scope cl C X.env) fp) (inBlk c scope) g gs F where
  calm := G.calm
  nd := G.nd
  hN := G.hN
  hsc := by show relS scope X.env.scope = relS scope c.sc; rw [G.hsc]
  fk := ok.kind
  hu := G.hu
  fx := G.fx
  fn := fun x f h => ⟨(G.fn x f h).mg, (G.fn x f h).run⟩
  cl := G.cl
  kp := G.kp
  bi := G.bi
  isi := G.isi
  zip := G.zip
  ty := G.ty
  dbg := G.dbg
  xc := ⟨G.xc.kp, fun Y h => G.xc.run Y (SameC.trans SameC.blk h)⟩
theorem pt_ifM {c a b : Expr} {oc oa ob : Fo} {pos : Pos} (hc : PT X c (tOt g EV oc)) (ha : PT X a (tOt g EV oa)) (hb : PT X b (tOt g EV ob)) :
    PT X (.IfExp c a b pos) (tOt g EV fun sd A => (oc sd A).bind fun x => match x.1 with | .bl true => oa sd x.2 | .bl false => ob sd x.2 | _ => .bad) := by
  refine ⟨fun pins s σ H Q I q => ?_⟩
  have z := tO_seq (f := fun x sd => match x.1 with | .bl true => oa sd x.2 | .bl false => ob sd x.2 | _ => .bad) q
  show wpAny _ _ (do if ← isTrue c X.env (eval c X.env) then isTrue a X.env (eval a X.env) else isTrue b X.env (eval b X.env)) _ _ _
  refine wpAny_bind (thn (hc.run pins s σ H (fun k H1 => if k = true then tOt g EV oa σ H1 Q else tOt g EV ob σ H1 Q) I ?_) fun d s1 ⟨H1, I1, q1⟩ => ?_)
  · obtain ⟨rho, A, sd, hr, hs, z⟩ := z
    refine ⟨rho, A, sd, hr, hs, z.mono (fun x q rho1 H1 v e1 hr1 rv => ?_) fun _ _ z => z⟩
    obtain ⟨rho, A, sd, d, hr, hs, r1, z⟩ := q rho1 H1 v e1 hr1 rv
    dsimp only at z
    split at z
    · cases r1; exact ⟨true, rfl, tO_at hr hs z⟩
    · cases r1; exact ⟨false, rfl, tO_at hr hs z⟩
    · exact z.elim
  · cases d with
    | true => exact ha.run pins s1 σ H1 Q I1 q1
    | false => exact hb.run pins s1 σ H1 Q I1 q1
/-- a def is called -/
theorem pe_callM {f : Nat} {x : Str} {e : Expr} {es : List Expr} {p pos : Pos} {os : Sd → List AO → T (List D × List AO)} (h : FnH X g F f x) (hg : Gl X x) (hdb : (x == ("__debug__" : Str)) = false) (ha : PA X (e :: es) (tOs g EV os)) (hs : (e :: es).all noStar = true) :
    PE X (.Call (.Name x p) (e :: es) [] pos) (tO g EV fun sd A => (os sd A).bind fun x => (F f x.1 x.2).nox) := by
  obtain ⟨CX, k, fd, ps, hx, fo, hr, hk, hb, hl⟩ := h.run
  rw [List.all_cons, Bool.and_eq_true] at hs
  refine pe_mono (pe_call (E := fun _ _ _ => False) fo hr hg h.mg hk hb .nil (fun pins σ H s e s' I z => (hx _ _ _ _ _ z).elim) ha hdb (star_ok hs.1) (nostars hs.2)) fun σ H Q q => ?_
  obtain ⟨rho, A, sd, hr, hs, z⟩ := tOs_seq (f := fun x sd => (F f x.1 x.2).nox) q
  refine ⟨rho, A, sd, hr, hs, z.mono (fun x q rho1 H1 v e1 hr1 rv => ?_) fun _ _ z => z⟩
  obtain ⟨rho, A, sd, d, hr, hs, r1, z⟩ := q rho1 H1 v e1 hr1 rv
  have z' := T.Sat.nox z
  rw [List.append_nil]
  exact ⟨by rw [← r1.length]; exact hl _ _ _ _ z', rho, A, d, hr, r1, z'⟩
theorem xc_post {C : Addr} {c : Nat} {rho : List Addr} {H : Hp} {A : List AO} {Q : VK} {fs : List (Str × D)} {fvs : List (Str × V)} (hr : HR g rho H A) (rf : RFs g rho H fs fvs) (h : Post g rho H Q (.xc c fs, A)) :
    ∀ p dd oe, H p = none → H dd = none → dd ≠ p → Q (.ref p) (upd (upd H dd (.xd fvs)) p (.frz oe (XcO (g.cls c) dd p))) := fun p dd oe hp hd hne => by
  have e1 := Ext.new (rho := rho) (o := .xd fvs) hd
  have hp' : upd H dd (.xd fvs) p = none := by rw [upd_ne (Ne.symm hne)]; exact hp
  have e2 := Ext.new (rho := rho) (o := .frz oe (XcO (g.cls c) dd p)) hp'
  refine h _ _ _ (e1.trans e2) ((hr.new hd).new hp') (.xc ⟨oe, dd, hr.out hp, upd_same, hr.out hd, ?_⟩ (rf.ext (e1.trans e2)))
  rw [upd_ne hne]; exact upd_same
theorem pe_xc0 {k : Nat} {x : Str} {p pos : Pos} (hx : XcH X g gs) (hg : Gl X x) (hm : X.mg x = some (.ref (g.cls k))) (hdb : (x == ("__debug__" : Str)) = false) :
    PE X (.Call (.Name x p) [] [] pos) (tO g EV fun sd A => match xcOf gs k [] with | some d => .ret (d, A) | none => .bad) := by
  refine ⟨fun pins s σ H Q I h => ?_⟩
  obtain ⟨rho, A, sd, hr, hs, z⟩ := h
  dsimp only at z
  split at z
  · rename_i d hd
    unfold xcOf at hd
    split at hd
    · rename_i vs' tag hc _
      cases hd
      refine wpAny_Call_Name_kw (ld_glob I hg hm ?_ hdb)
      refine PySem.W.callWith_K0 I.kIn (hx.kp _ _ hc) ?_
      exact (hx.run X ⟨rfl, rfl, rfl, rfl, rfl, rfl, rfl⟩).run0 k tag hc pins s σ H Q I (xc_post (C := 0) hr (.cons (.str _) .nil) z)
    · rename_i e; cases e
    · cases hd
  · exact z.elim
theorem pe_xc1 {k : Nat} {x : Str} {a : Expr} {p pos : Pos} {os : Sd → List AO → T (List D × List AO)} (hx : XcH X g gs) (hg : Gl X x) (hm : X.mg x = some (.ref (g.cls k))) (hdb : (x == ("__debug__" : Str)) = false) (ha : PA X [a] (tOs g EV os)) (hst : noStar a = true)
    (hkp : PySem.W.keepIn X.K (.ref (g.cls k)) = true) :
    PE X (.Call (.Name x p) [a] [] pos) (tO g EV fun sd A => (os sd A).bind fun x => match xcOf gs k x.1 with | some d => .ret (d, x.2) | none => .bad) := by
  refine ⟨fun pins s σ H Q I h => ?_⟩
  have q := tOs_seq (f := fun x sd => match xcOf gs k x.1 with | some d => .ret (d, x.2) | none => .bad) h
  refine wpAny_Call_Name_kw (ld_glob I hg hm ?_ hdb)
  refine PySem.W.callWith_K (h₀ := X.base) I.ok.mod.kin hkp (thn (ha.run pos pins s σ H _ I q) fun us s1 ⟨vs, H1, I1, r, q⟩ => ⟨I1.kIn, ?_⟩) (star_ok hst) rfl
  obtain ⟨rho, A, sd, ds, hr, hs, rs, z⟩ := q
  dsimp only at z
  split at z
  · rename_i d hd
    unfold xcOf at hd
    split at hd
    · rename_i vs' tag hc
      cases rs
      cases hd
      cases r
      exact (hx.run X ⟨rfl, rfl, rfl, rfl, rfl, rfl, rfl⟩).run0 k tag hc pins s1 σ H1 Q I1 (xc_post (C := 0) hr (.cons (.str _) .nil) z)
    · rename_i vs' tag f v hc
      obtain ⟨w, rfl, rw'⟩ := rs.one
      cases hd
      cases r with
      | cons r t =>
        cases t
        exact (hx.run X ⟨rfl, rfl, rfl, rfl, rfl, rfl, rfl⟩).run1 k tag f hc pins s1 σ H1 Q w _ _ [] I1 r (.inl ⟨rfl, rfl⟩) (xc_post (C := 0) hr (.cons (.str _) (.cons rw' .nil)) z)
    · cases hd
  · exact z.elim
theorem pe_xckM {k : Nat} {x f : Str} {a : Expr} {p pos kpos : Pos} {oa : Fo} (hx : XcH X g gs) (hg : Gl X x) (hm : X.mg x = some (.ref (g.cls k))) (hdb : (x == ("__debug__" : Str)) = false) (ha : PE X a (tO g EV oa)) (hkp : PySem.W.keepIn X.K (.ref (g.cls k)) = true) :
    PE X (.Call (.Name x p) [] [⟨some f, a, kpos⟩] pos) (tO g EV fun sd A => (oa sd A).bind fun x => match gs.xcl k with
      | some (_, some f') => if f' = f then match xcOf gs k [x.1] with
        | some d => .ret (d, x.2)
        | none => .bad
        else .bad
      | _ => .bad) := by
  refine ⟨fun pins s σ H Q I h => ?_⟩
  have q := tO_seq (f := fun x sd => match gs.xcl k with
      | some (_, some f') => if f' = f then match xcOf gs k [x.1] with
        | some d => .ret (d, x.2)
        | none => .bad
        else .bad
      | _ => .bad) h
  refine wpAny_Call_Name_kw (ld_glob I hg hm ?_ hdb)
  refine PySem.W.callWith_KW0 (h₀ := X.base) I.ok.mod.kin hkp (by rfl) ?_ (by rfl)
  refine thn ((pk_cons ha pk_nil).run pos pins s σ H (fun ws H2 => ∃ w, ws = [w] ∧ ∃ rho A sd d, HR g rho H2 A ∧ RSt g rho H2 sd σ ∧ R g rho H2 d w ∧ (match gs.xcl k with
    | some (_, some f') => if f' = f then match xcOf gs k [d] with
      | some d => (.ret (d, A) : Out)
      | none => .bad
      else .bad
    | _ => .bad).Sat (Post g rho H2 Q) (PostE g rho H2 EV)) I ?_) fun ws s2 ⟨zs, H2, I2, rz, w, ez, rho, A, sd, d, hr, hs, r1, z⟩ => ⟨I2.kIn, ?_⟩
  · obtain ⟨rho, A, sd, hr, hs, z⟩ := q
    exact ⟨rho, A, sd, hr, hs, z.mono (fun x q rho1 H1 v e1 hr1 rv => ⟨v, rfl, q rho1 H1 v e1 hr1 rv⟩) fun _ _ z => z⟩
  · subst ez
    cases rz with
    | cons r t =>
      cases t
      split at z
      · rename_i tag f' hc
        split at z
        · rename_i ef
          subst ef
          simp only [xcOf, hc] at z
          exact (hx.run X ⟨rfl, rfl, rfl, rfl, rfl, rfl, rfl⟩).run1 k tag f' hc pins s2 σ H2 Q w _ [] _ I2 r (.inr ⟨rfl, rfl⟩) (xc_post (C := 0) hr (.cons (.str _) (.cons r1 .nil)) z)
        · exact z.elim
      · exact z.elim
end
end Mi
/-! Mi8: the compiler is right about expressions. -/
namespace Mi
open PySem PySem.Spec PyProof.Rows L2
section
variable {X : Cx} {c : Cc} {g : Gv} {gs : Gs} {F : Fn} {EV : VK}
theorem cEl_nostar {f : Expr → Option E} : ∀ {es : List Expr} {ms : List E}, cEl f es = some ms → es.all noStar = true
  | [], _, _ => rfl
  | e :: es, ms, h => by
    unfold cEl at h
    split at h
    · rename_i hs
      split at h
      · rename_i m ms' h1 h2
        rw [List.all_cons, hs, cEl_nostar h2]; rfl
      · cases h
    · cases h
theorem cEl_pa {f : Expr → Option E} (ih : ∀ e m, f e = some m → PE X e (tO g EV (evE gs F m))) : ∀ {es : List Expr} {ms : List E}, cEl f es = some ms → PA X es (tOs g EV (evEs gs F ms))
  | [], ms, h => by
    cases h
    exact pa_nilM
  | e :: es, ms, h => by
    unfold cEl at h
    split at h
    · rename_i hs
      split at h
      · rename_i m ms' h1 h2
        cases h
        exact pa_consM (ih e m h1) (cEl_pa ih h2) (star_ok hs)
      · cases h
    · cases h
theorem cEl_and {f : Expr → Option E} {pos : Pos} (ih : ∀ e m, f e = some m → PE X e (tO g EV (evE gs F m)) ∧ PT X e (tOt g EV (evE gs F m))) : ∀ {es : List Expr} {e : Expr} {ms : List E}, cEl f (e :: es) = some ms →
    PE X (.BoolOp .And (e :: es) pos) (tO g EV (evAnd gs F ms)) ∧ PW X (.BoolOp .And (e :: es) pos) (tOt g EV (evAnd gs F ms))
  | [], e, ms, h => by
    unfold cEl at h
    split at h
    · split at h
      · rename_i m ms' h1 h2
        cases h2
        cases h
        obtain ⟨a, b⟩ := ih e m h1
        exact ⟨pe_one a, pw_and1 b⟩
      · cases h
    · cases h
  | e2 :: es, e, ms, h => by
    unfold cEl at h
    split at h
    · split at h
      · rename_i m ms' h1 h2
        cases h
        obtain ⟨a, b⟩ := ih e m h1
        obtain ⟨a2, b2⟩ := cEl_and (pos := pos) ih h2
        cases ms' with
        | nil =>
          unfold cEl at h2
          split at h2
          · split at h2 <;> cases h2
          · cases h2
        | cons m2 ms2 => exact ⟨pe_andM a a2, pw_andM b b2⟩
      · cases h
    · cases h
theorem cEl_or {f : Expr → Option E} {pos : Pos} (ih : ∀ e m, f e = some m → PE X e (tO g EV (evE gs F m)) ∧ PT X e (tOt g EV (evE gs F m))) : ∀ {es : List Expr} {e : Expr} {ms : List E}, cEl f (e :: es) = some ms →
    PE X (.BoolOp .Or (e :: es) pos) (tO g EV (evOr gs F ms)) ∧ PW X (.BoolOp .Or (e :: es) pos) (tOt g EV (evOr gs F ms))
  | [], e, ms, h => by
    unfold cEl at h
    split at h
    · split at h
      · rename_i m ms' h1 h2
        cases h2
        cases h
        obtain ⟨a, b⟩ := ih e m h1
        exact ⟨pe_one a, pw_or1 b⟩
      · cases h
    · cases h
  | e2 :: es, e, ms, h => by
    unfold cEl at h
    split at h
    · split at h
      · rename_i m ms' h1 h2
        cases h
        obtain ⟨a, b⟩ := ih e m h1
        obtain ⟨a2, b2⟩ := cEl_or (pos := pos) ih h2
        cases ms' with
        | nil =>
          unfold cEl at h2
          split at h2
          · split at h2 <;> cases h2
          · cases h2
        | cons m2 ms2 => exact ⟨pe_orM a a2, pw_orM b b2⟩
      · cases h
    · cases h
theorem const_ok {k : Const} {d : D} {j : Nat} {pos : Pos} (h : constD k = some d) : PE X (.Constant k j pos) (tO g EV fun _ A => .ret (d, A)) := by
  cases k with
  | none => cases h; exact pe_kM pe_non fun _ _ => .non
  | bool b => cases h; exact pe_kM pe_bl fun _ _ => .bl b
  | int b => cases h; exact pe_kM pe_int fun _ _ => .int b
  | str b => cases h; exact pe_kM pe_str fun _ _ => .str b
  | _ => cases h
theorem type_ok (G : Good X c g gs F) {e : Expr} {t : Tn} (h : typeOfName c e = some t) : PE X e (tC (tvV g t)) := by
  unfold typeOfName at h
  split at h
  · rename_i x pos
    split at h
    · rename_i k hk
      cases h
      obtain ⟨h1, h2⟩ := gl_ok G hk
      exact pe_glob h1 (G.cl _ _ h2) rfl (G.dbg _ _ h2)
    · rename_i n hk
      cases h
      obtain ⟨h1, h2⟩ := gl_ok G hk
      obtain ⟨q1, q2, q3⟩ := G.ty _ _ h2
      exact pe_bltn h1 q1 q2 rfl q3 (G.dbg _ _ h2)
    · rename_i hk
      cases h
      obtain ⟨h1, h2⟩ := gl_ok G hk
      obtain ⟨rfl, q1⟩ := G.bi _ _ h2
      exact pe_bltn h1 q1 (u := .type "int") (by decide +kernel) rfl (by decide) (by decide)
    · rename_i hk
      cases h
      obtain ⟨h1, h2⟩ := gl_ok G hk
      obtain ⟨rfl, q1⟩ := G.bi _ _ h2
      exact pe_bltn h1 q1 (u := .type "list") (by decide +kernel) rfl (by decide) (by decide)
    · cases h
  · cases h
theorem typ_nostar {e : Expr} {t : Tn} (h : typeOfName c e = some t) : noStar e = true := by
  unfold typeOfName at h
  split at h
  · rfl
  · cases h
theorem visL_ok {sc : Scope} {x : Str} (h : cE.visL sc x = true) : sc.names.lookup x = some .local := by
  unfold cE.visL at h
  split at h
  · assumption
  · cases h
/-- a name that a comprehension's block stores -/
theorem blk_name (G : Good X c g gs F) {scope : Scope} {y : Str} {i : Nat} {pos : Pos} (hi : posIn y c.N = some i) (hv : cE.visL (relS scope c.sc) y = true) (s : Shared) (H : Hp) (C : Addr) (cl : List (Str × Addr)) (fp : List Addr) :
    PG (X.blk s H scope (compEnvC scope cl C X.env) fp) (.Name y pos) (gName i) := by
  have hl : (compEnvC scope cl C X.env).scope.names.lookup y = some .local := by
    show (relS scope X.env.scope).names.lookup y = some .local
    rw [G.hsc]; exact visL_ok hv
  exact pg_name G.nd (by show X.N[i]? = some y; rw [G.hN]; exact posIn_ok hi) (.inl hl) (.inr hl)
theorem cE_ok : ∀ (n : Nat) {X : Cx} {c : Cc} {EV : VK} {e : Expr} {m : E}, Good X c g gs F → cE n c e = some m → PE X e (tO g EV (evE gs F m)) ∧ PT X e (tOt g EV (evE gs F m))
  | 0, _, _, _, _, _, _, h => by cases h
  | n + 1, X, c, EV, e, m, G, h => by
    have ih : ∀ {EV : VK} (e : Expr) (m : E), cE n c e = some m → PE X e (tO g EV (evE gs F m)) ∧ PT X e (tOt g EV (evE gs F m)) := fun e m h => cE_ok n G h
    have ihP : ∀ {EV : VK} (e : Expr) (m : E), cE n c e = some m → PE X e (tO g EV (evE gs F m)) := fun e m h => (cE_ok n G h).1
    unfold cE at h
    split at h
    · -- Name
      rename_i x pos
      split at h
      · rename_i i hi
        cases h
        have q := pe_slM (g := g) (EV := EV) (slot_ok G (pos := pos) hi)
        exact ⟨q, pt_val q⟩
      · split at h
        · rename_i f hf
          cases h
          obtain ⟨h1, h2⟩ := gl_ok G hf
          have q := pe_kM (g := g) (EV := EV) (d := .fn f) (pe_glob (pos := pos) (v := .ref (g.fns f)) h1 (G.fn _ _ h2).mg rfl (G.dbg _ _ h2)) fun _ _ => .fn f
          exact ⟨q, pt_val q⟩
        · rename_i f hf
          cases h
          obtain ⟨h1, h2⟩ := gl_ok G hf
          have q := pe_kM (g := g) (EV := EV) (d := .cl f) (pe_glob (pos := pos) (v := .ref (g.cls f)) h1 (G.cl _ _ h2) rfl (G.dbg _ _ h2)) fun _ _ => .cl f
          exact ⟨q, pt_val q⟩
        · cases h
    · -- Constant
      rename_i k j pos
      rw [Option.map_eq_some_iff] at h
      obtain ⟨d, hd, rfl⟩ := h
      have q := const_ok (X := X) (g := g) (EV := EV) (j := j) (pos := pos) hd
      exact ⟨q, pt_val q⟩
    · -- BinOp
      split at h
      · rename_i o a b ho ha hb
        cases h
        obtain rfl := bopOf_ok ho
        have q := pe_binM (o := o) (pos := by assumption) (ihP (EV := EV) _ _ ha) (ihP (EV := EV) _ _ hb)
        exact ⟨q, pt_val q⟩
      · cases h
    · -- Compare
      split at h
      · rename_i hs
        split at h
        · rename_i o a b ho ha hb
          cases h
          obtain rfl := copOf_ok ho
          exact ⟨pe_cmpM G.hu (ihP _ _ ha) (ihP _ _ hb) (behind_ok hs), pt_cmpM G.hu (ihP _ _ ha) (ihP _ _ hb) (behind_ok hs)⟩
        · cases h
      · cases h
    · -- And
      rw [Option.map_eq_some_iff] at h
      obtain ⟨ms, hms, rfl⟩ := h
      obtain ⟨q1, q2⟩ := cEl_and (X := X) (EV := EV) (g := g) (gs := gs) (F := F) (pos := by assumption) (fun e m h => ih e m h) hms
      exact ⟨q1, q2.pt⟩
    · -- Or
      rw [Option.map_eq_some_iff] at h
      obtain ⟨ms, hms, rfl⟩ := h
      obtain ⟨q1, q2⟩ := cEl_or (X := X) (EV := EV) (g := g) (gs := gs) (F := F) (pos := by assumption) (fun e m h => ih e m h) hms
      exact ⟨q1, q2.pt⟩
    · -- Not
      rw [Option.map_eq_some_iff] at h
      obtain ⟨a, ha, rfl⟩ := h
      exact ⟨pe_notM (ihP _ _ ha), pt_notM (ih _ _ ha).2⟩
    · -- IfExp
      split at h
      · rename_i t a b ht ha hb
        cases h
        exact ⟨pe_ifM (ih _ _ ht).2 (ihP _ _ ha) (ihP _ _ hb), pt_ifM (ih _ _ ht).2 (ih _ _ ha).2 (ih _ _ hb).2⟩
      · cases h
    · -- Tuple
      rw [Option.map_eq_some_iff] at h
      obtain ⟨ms, hms, rfl⟩ := h
      have q := pe_tupM (k := by assumption) (pos := by assumption) (cEl_pa (EV := EV) (fun e m h => ihP e m h) hms)
      exact ⟨q, pt_val q⟩
    · -- List
      rw [Option.map_eq_some_iff] at h
      obtain ⟨ms, hms, rfl⟩ := h
      have q := pe_lstM (pos := by assumption) (cEl_pa (EV := EV) (fun e m h => ihP e m h) hms)
      exact ⟨q, pt_val q⟩
    · -- Attribute
      rename_i a0 f pos
      split at h
      · rename_i hs
        rw [Option.map_eq_some_iff] at h
        obtain ⟨a, ha, rfl⟩ := h
        have q := pe_fldM (f := f) (pos := pos) G.fx (ihP (EV := EV) _ _ ha) (base_ok hs)
        exact ⟨q, pt_val q⟩
      · cases h
    · -- Subscript
      split at h
      · rename_i hs
        split at h
        · rename_i a b ha hb
          cases h
          have q := pe_ixM (pos := by assumption) (ihP (EV := EV) _ _ ha) (ihP (EV := EV) _ _ hb) (plain_ok hs)
          exact ⟨q, pt_val q⟩
        · cases h
      · cases h
    · -- Call
      rename_i x p args kws pos
      suffices q : PE X (.Call (.Name x p) args kws pos) (tO g EV (evE gs F m)) from ⟨q, pt_val q⟩
      split at h
      · rename_i f a as hf
        rw [Option.map_eq_some_iff] at h
        obtain ⟨ms, hms, rfl⟩ := h
        obtain ⟨h1, h2⟩ := gl_ok G hf
        exact pe_callM (G.fn _ _ h2) h1 (G.dbg _ _ h2) (cEl_pa (fun e m h => ihP e m h) hms) (cEl_nostar hms)
      · rename_i b a as hf
        rw [Option.map_eq_some_iff] at h
        obtain ⟨ms, hms, rfl⟩ := h
        obtain ⟨h1, h2⟩ := gl_ok G hf
        obtain ⟨rfl, q2⟩ := G.bi _ _ h2
        have hs := cEl_nostar hms
        rw [List.all_cons, Bool.and_eq_true] at hs
        exact pe_biM G.calm h1 q2 (cEl_pa (fun e m h => ihP e m h) hms) (star_ok hs.1) (nostars hs.2)
      · rename_i k hf
        cases h
        obtain ⟨h1, h2⟩ := gl_ok G hf
        exact pe_xc0 G.xc h1 (G.cl _ _ h2) (G.dbg _ _ h2)
      · rename_i k a hf
        rw [Option.map_eq_some_iff] at h
        obtain ⟨ms, hms, rfl⟩ := h
        obtain ⟨h1, h2⟩ := gl_ok G hf
        have hs := cEl_nostar hms
        rw [List.all_cons, Bool.and_eq_true] at hs
        exact pe_xc1 G.xc h1 (G.cl _ _ h2) (G.dbg _ _ h2) (cEl_pa (fun e m h => ihP e m h) hms) hs.1 (G.kp _ _ h2)
      · rename_i k y a kp hf
        rw [Option.map_eq_some_iff] at h
        obtain ⟨a', ha, rfl⟩ := h
        obtain ⟨h1, h2⟩ := gl_ok G hf
        exact pe_xckM G.xc h1 (G.cl _ _ h2) (G.dbg _ _ h2) (ihP _ _ ha) (G.kp _ _ h2)
      · rename_i a t hf
        split at h
        · rename_i hs
          split at h
          · rename_i a' t' ha ht
            cases h
            obtain ⟨h1, h2⟩ := gl_ok G hf
            obtain ⟨rfl, q2⟩ := G.isi _ h2
            exact pe_isiM G.fx h1 q2 (ihP _ _ ha) (type_ok G ht) (star_ok hs) (star_ok (typ_nostar ht))
          · cases h
        · cases h
      · cases h
    · -- ListComp
      rename_i elt y yp src scope pos
      split at h
      · rename_i hs
        split at h
        · rename_i i src' elt' hi hsr hel
          split at h
          · rename_i hb
            rw [Bool.and_eq_true] at hb
            cases h
            have ok : BlkOk X.N X.env.scope scope [(y, i)] := blkOk_by (by rw [G.hN, G.hsc]; exact hb.1)
            have q : PE X (.ListComp elt [⟨.Name y yp, src, [], 0⟩] scope pos) (tO g EV (lcO gs i (evE gs F src') (evE gs F elt'))) := pe_mono (pe_lc G.calm G.nd (pi_list (ihP (EV := EV) _ _ hsr)) ok (fun s H C cl fp => blk_name G hi hb.2 s H C cl fp)
              (fun s H C cl fp => pts_nil) (fun s H C cl fp => (cE_ok n (EV := fun _ _ => False) (G.blk ok s H C cl fp) hel).1) (fold_ok hs)) fun σ H Q q => lc_down q
            exact ⟨q, pt_val q⟩
          · cases h
        · cases h
      · cases h
    · -- ListComp zip
      rename_i elt y yp z zp tk tp x xp a b cp scope pos
      split at h
      · rename_i hs
        rw [Bool.and_eq_true] at hs
        split at h
        · rename_i i j a' b' elt' hf hi hj ha hb' hel
          split at h
          · rename_i hb
            rw [Bool.and_eq_true, Bool.and_eq_true] at hb
            cases h
            obtain ⟨h1, h2⟩ := gl_ok G hf
            obtain ⟨rfl, q2⟩ := G.zip _ h2
            have ok : BlkOk X.N X.env.scope scope [(y, i), (z, j)] := blkOk_by (by rw [G.hN, G.hsc]; exact hb.1)
            have q : PE X (.ListComp elt [⟨.Tuple [.Name y yp, .Name z zp] tk tp, .Call (.Name "zip" xp) [a, b] [] cp, [], 0⟩] scope pos) (tO g EV (lczO gs i j (evE gs F a') (evE gs F b') (evE gs F elt'))) :=
              pe_mono (pe_lc G.calm G.nd (RZ.pi_zipA h1 q2 (pa_cons (ihP (EV := EV) _ _ ha) (pa_cons (ihP (EV := EV) _ _ hb') pa_nil (star_ok hs.2)) (star_ok hs.1)) (star_ok hs.1) (nostars (by rw [List.all_cons, hs.2]; rfl))) ok
                (fun s H C cl fp => pg_tup (X := X.blk s H scope (compEnvC scope cl C X.env) fp) G.calm (pgs_cons (X := X.blk s H scope (compEnvC scope cl C X.env) fp) (blk_name G hi hb.2.1 s H C cl fp) (pgs_cons (X := X.blk s H scope (compEnvC scope cl C X.env) fp) (blk_name G hj hb.2.2 s H C cl fp) pgs_nil)))
                (fun s H C cl fp => pts_nil) (fun s H C cl fp => (cE_ok n (EV := fun _ _ => False) (G.blk ok s H C cl fp) hel).1) (fun _ => rfl)) fun σ H Q q => lcz_down q
            exact ⟨q, pt_val q⟩
          · cases h
        · cases h
      · cases h
    · cases h
end
end Mi
/-! Mi9: statements. -/
namespace Mi
open PySem PySem.Spec PyProof.Rows L2
def FlP (g : Gv) (D : Ends) (rho : List Addr) (H : Hp) : Fl → Prop
  | .nx sd => ∀ σ, RSt g rho H sd σ → D.nx σ H
  | .rt d => ∀ v, R g rho H d v → D.rt v H
abbrev PostF (g : Gv) (rho : List Addr) (H : Hp) (D : Ends) : Fl × List AO → Prop := fun r => ∀ rho' H', Ext rho H rho' H' → HR g rho' H' r.2 → FlP g D rho' H' r.1
theorem PostF.up {g : Gv} {rho rho' : List Addr} {H H' : Hp} {D : Ends} {r : Fl × List AO} (e : Ext rho H rho' H') (h : PostF g rho H D r) : PostF g rho' H' D r := fun a b e' => h a b (e.trans e')
theorem stepF {α : Type} {g : Gv} {EV : VK} {D : Ends} {t : T α} {f : α → T (Fl × List AO)} {rho : List Addr} {H : Hp} (h : (t.bind f).Sat (PostF g rho H D) (PostE g rho H EV)) :
    t.Sat (fun a => ∀ rho' H', Ext rho H rho' H' → (f a).Sat (PostF g rho' H' D) (PostE g rho' H' EV)) (PostE g rho H EV) := step (P := fun rho H => PostF g rho H D) (fun e => PostF.up e) h
abbrev Fs := Sd → List AO → T (Fl × List AO)
def tF (g : Gv) (EV : VK) (o : Fs) : TS := fun D σ H => ∃ rho A sd, HR g rho H A ∧ RSt g rho H sd σ ∧ (o sd A).Sat (PostF g rho H D) (PostE g rho H EV)
section
variable {X : Cx} {c : Cc} {g : Gv} {gs : Gs} {F : Fn} {EV : VK} {σ : L2.St} {H : Hp} {D : Ends}
/-- a value, then what it is for -/
theorem tF_seq {oa : Fo} {f : Mi.D × List AO → Sd → T (Fl × List AO)} (h : tF g EV (fun sd A => (oa sd A).bind fun x => f x sd) D σ H) :
    tO g EV oa σ H fun v H1 => ∃ rho A sd d, HR g rho H1 A ∧ RSt g rho H1 sd σ ∧ R g rho H1 d v ∧ (f (d, A) sd).Sat (PostF g rho H1 D) (PostE g rho H1 EV) := by
  obtain ⟨rho, A, sd, hr, hs, h⟩ := h
  refine ⟨rho, A, sd, hr, hs, (stepF h).mono (fun x q rho1 H1 v e1 hr1 rv => ?_) fun _ _ z => z⟩
  exact ⟨rho1, x.2, sd, x.1, hr1, hs.ext e1, rv, q rho1 H1 e1⟩
theorem PostF.here {rho : List Addr} {A : List AO} {f : Fl} (h : PostF g rho H D (f, A)) (hr : HR g rho H A) : FlP g D rho H f := h rho H (Ext.refl _ _) hr
theorem set_down {i : Nat} {oa : Fo} (h : tF g EV (fun sd A => (oa sd A).bind fun x => .ret (.nx (sd.set i (some x.1)), x.2)) D σ H) : tAsg (tO g EV oa) (gName i) D σ H := by
  obtain ⟨rho, A, sd, hr, hs, z⟩ := tF_seq (f := fun x sd => .ret (.nx (sd.set i (some x.1)), x.2)) h
  refine ⟨rho, A, sd, hr, hs, z.mono (fun x q rho1 H1 v e1 hr1 rv => ?_) fun _ _ z => z⟩
  obtain ⟨rho, A, sd, d, hr, hs, r1, z⟩ := q rho1 H1 v e1 hr1 rv
  exact PostF.here z hr _ (hs.set r1)
theorem names_at {is_ : List Nat} : ∀ {ds : List Mi.D} {vs : List V} {sd sd' : Sd} {σ : L2.St} {rho : List Addr} {Q : L2.St → Hp → Prop}, Rs g rho H ds vs → RSt g rho H sd σ → setAll is_ ds sd = some sd' → (∀ σ', RSt g rho H sd' σ' → Q σ' H) →
    (is_.foldr (fun i u => gCons (gName i) u) gNil) vs σ H Q := by
  induction is_ with
  | nil =>
    intro ds vs sd sd' σ rho Q r hs h q
    cases r with
    | nil => cases h; exact ⟨rfl, q _ hs⟩
    | cons => cases h
  | cons i is_ ih =>
    intro ds vs sd sd' σ rho Q r hs h q
    cases r with
    | nil => cases h
    | cons r t => exact ⟨_, _, rfl, ih t (hs.set r) h q⟩
theorem unp_down {is_ : List Nat} {oa : Fo} (h : tF g EV (fun sd A => (oa sd A).bind fun x => match x.1 with
    | .tup ds => match setAll is_ ds sd with
      | some σ' => .ret (.nx σ', x.2)
      | none => .bad
    | _ => .bad) D σ H) : tAsg (tO g EV oa) (gTup X.K is_.length (is_.foldr (fun i u => gCons (gName i) u) gNil)) D σ H := by
  obtain ⟨rho, A, sd, hr, hs, z⟩ := tF_seq (f := fun x sd => match x.1 with
    | .tup ds => match setAll is_ ds sd with
      | some σ' => .ret (.nx σ', x.2)
      | none => .bad
    | _ => .bad) h
  refine ⟨rho, A, sd, hr, hs, z.mono (fun x q rho1 H1 v e1 hr1 rv => ?_) fun _ _ z => z⟩
  obtain ⟨rho, A, sd, d, hr, hs, r1, z⟩ := q rho1 H1 v e1 hr1 rv
  dsimp only at z
  split at z
  · rename_i ds
    split at z
    · rename_i sd' hsd
      cases r1 with
      | tup hf rs =>
        refine ⟨_, _, rfl, .of hf.2, ?_, names_at rs hs hsd fun σ' h' => PostF.here z hr σ' h'⟩
        have : ∀ (is_ : List Nat) (ds : List Mi.D) (sd : Sd), setAll is_ ds sd = some sd' → ds.length = is_.length := by
          intro is_
          induction is_ with
          | nil =>
            intro ds sd h
            cases ds with
            | nil => rfl
            | cons => cases h
          | cons i is_ ih =>
            intro ds sd h
            cases ds with
            | nil => cases h
            | cons d ds => rw [List.length_cons, List.length_cons, ih ds _ h]
        rw [← rs.length, this _ _ _ hsd]
    · exact z.elim
  · exact z.elim
/-! ### the compiler -/
def isComp : Expr → Bool
  | .ListComp _ _ _ _ => true
  | .SetComp _ _ _ _ => true
  | .DictComp _ _ _ _ _ => true
  | _ => false
def isTup : Expr → Bool
  | .Tuple _ _ _ => true
  | _ => false
def locB (sc : Scope) (x : Str) : Bool := match sc.names.lookup x with
  | some .local => true
  | _ => false
theorem locB_ok {sc : Scope} {x : Str} (h : locB sc x = true) : sc.names.lookup x = some .local := by
  unfold locB at h
  split at h
  · assumption
  · cases h
def namesOf (c : Cc) : List Expr → Option (List Nat)
  | [] => some []
  | .Name x _ :: es => if locB c.sc x then match posIn x c.N, namesOf c es with
    | some i, some is_ => some (i :: is_)
    | _, _ => none
    else none
  | _ :: _ => none
def cSl (f : Stmt → Option S) : List Stmt → Option (List S)
  | [] => some []
  | s :: ss => match f s, cSl f ss with
    | some m, some ms => some (m :: ms)
    | _, _ => none
def cS : Nat → Cc → Stmt → Option S
  | 0, _, _ => none
  | n + 1, c, s => match s with
    | .Assign [.Name y py] (.ListComp elt gens scope pos) _ => if locB c.sc y && (py.line == pos.line) && !(scope.names.any fun (n, k) => n == y && (k == .local || k == .cell)) then
        match posIn y c.N, cE (n + 1) c (.ListComp elt gens scope pos) with
        | some i, some e => some (.set i e)
        | _, _ => none
        else none
    | .Assign [.Name y _] e _ => if locB c.sc y && !isComp e then
        match posIn y c.N, cE n c e with
        | some i, some e => some (.set i e)
        | _, _ => none
        else none
    | .Assign [.Tuple ts _ _] e _ => if !isComp e && !isTup e then
        match namesOf c ts, cE n c e with
        | some is_, some e => some (.unp is_ e)
        | _, _ => none
        else none
    | .If t a b _ => match cE n c t, cSl (cS n c) a, cSl (cS n c) b with
      | some t, some a, some b => some (.iff t a b)
      | _, _, _ => none
    | .Return (some e) _ => (cE n c e).map .ret
    | .Pass _ => some .pass
    | _ => none
theorem swap_no {e : Expr} {t : Option Expr} {l : Nat} {env : Env} (h : isComp e = false) : swapsWith e t l env = pure false := by cases e <;> first | rfl | cases h
theorem swapS_no {e t : Expr} {l : Nat} {env : Env} (h : isComp e = false) : swapsWithSole [t] e l env = pure false := swap_no h
theorem stores_no {e : Expr} {ts : List Expr} {k : Nat} {pos : Pos} {env : Env} (h : isTup e = false) : swappedStores [.Tuple ts k pos] e env = pure none := by cases e <;> first | rfl | cases h
theorem names_each {c : Cc} (G : Good X c g gs F) : ∀ {ts : List Expr} {is_ : List Nat}, namesOf c ts = some is_ → PGs X ts (is_.foldr (fun i u => gCons (gName i) u) gNil) ∧ (assignEach ts X.env).length = is_.length ∧ (assignEach ts X.env).findIdx? (·.1) = none
  | [], is_, h => by cases h; exact ⟨pgs_nil, rfl, rfl⟩
  | e :: es, is_, h => by
    unfold namesOf at h
    split at h
    · cases ‹_ :: _ = []›
    · rename_i x pos es' heq
      cases heq
      split at h
      · rename_i hl
        split at h
        · rename_i i is' hi his
          cases h
          obtain ⟨q1, q2, q3⟩ := names_each G his
          have hl' : X.env.scope.names.lookup x = some .local := by rw [G.hsc]; exact locB_ok hl
          refine ⟨pgs_cons (pg_name G.nd (by rw [G.hN]; exact posIn_ok hi) (.inl hl') (.inr hl')) q1 rfl, ?_, ?_⟩
          · show (assignEach es X.env).length + 1 = is'.length + 1
            rw [q2]
          · show List.findIdx? (fun z => z.1) ((false, assign (.Name x pos) X.env) :: assignEach es X.env) = none
            rw [List.findIdx?_cons, q3]; rfl
        · cases h
      · cases h
    · cases h
/-- the parts of a comprehension -/
theorem lc_parts (n : Nat) (G : Good X c g gs F) {elt : Expr} {gens : List Comprehension} {scope : Scope} {pos : Pos} {m : E} (h : cE (n + 1) c (.ListComp elt gens scope pos) = some m) :
    ∃ (tg iter : Expr) (own : List (Str × Nat)) (wi : TI) (gg : TG) (te : TE), gens = [⟨tg, iter, [], 0⟩] ∧ PI X tg iter wi ∧ BlkOk X.N X.env.scope scope own ∧
      (∀ (s : Shared) (H : Hp) (C : Addr) (cl : List (Str × Addr)) (fp : List Addr), PG (X.blk s H scope (compEnvC scope cl C X.env) fp) tg gg) ∧
      (∀ (s : Shared) (H : Hp) (C : Addr) (cl : List (Str × Addr)) (fp : List Addr), PE (X.blk s H scope (compEnvC scope cl C X.env) fp) elt te) ∧ (∀ x, foldedSetIterable iter X.env x = pure x) ∧
      ∀ σ H Q, tO g EV (evE gs F m) σ H Q → tLc wi gg tYes te (own.map (·.2)) σ H Q := by
  generalize he : Expr.ListComp elt gens scope pos = e0 at h
  unfold cE at h
  split at h
  all_goals first | (cases he; done) | skip
  · rename_i elt0 y yp src scope0 pos0
    cases he
    split at h
    · rename_i hs
      split at h
      · rename_i i src' elt' hi hsr hel
        split at h
        · rename_i hb
          rw [Bool.and_eq_true] at hb
          cases h
          have ok : BlkOk X.N X.env.scope scope [(y, i)] := blkOk_by (by rw [G.hN, G.hsc]; exact hb.1)
          exact ⟨_, _, _, _, _, _, rfl, pi_list (cE_ok n (EV := EV) G hsr).1, ok, fun s H C cl fp => blk_name G hi hb.2 s H C cl fp, fun s H C cl fp => (cE_ok n (EV := fun _ _ => False) (G.blk ok s H C cl fp) hel).1, fold_ok hs, fun σ H Q q => lc_down q⟩
        · cases h
      · cases h
    · cases h
  · rename_i elt0 y yp z zp tk tp x xp a b cp scope0 pos0
    cases he
    split at h
    · rename_i hs
      rw [Bool.and_eq_true] at hs
      split at h
      · rename_i i j a' b' elt' hf hi hj ha hb' hel
        split at h
        · rename_i hb
          rw [Bool.and_eq_true, Bool.and_eq_true] at hb
          cases h
          obtain ⟨h1, h2⟩ := gl_ok G hf
          obtain ⟨rfl, q2⟩ := G.zip _ h2
          have ok : BlkOk X.N X.env.scope scope [(y, i), (z, j)] := blkOk_by (by rw [G.hN, G.hsc]; exact hb.1)
          exact ⟨_, _, _, _, _, _, rfl, RZ.pi_zipA h1 q2 (pa_cons (cE_ok n (EV := EV) G ha).1 (pa_cons (cE_ok n (EV := EV) G hb').1 pa_nil (star_ok hs.2)) (star_ok hs.1)) (star_ok hs.1) (nostars (by rw [List.all_cons, hs.2]; rfl)), ok,
            fun s H C cl fp => pg_tup (X := X.blk s H scope (compEnvC scope cl C X.env) fp) G.calm (pgs_cons (X := X.blk s H scope (compEnvC scope cl C X.env) fp) (blk_name G hi hb.2.1 s H C cl fp) (pgs_cons (X := X.blk s H scope (compEnvC scope cl C X.env) fp) (blk_name G hj hb.2.2 s H C cl fp) pgs_nil)),
            fun s H C cl fp => (cE_ok n (EV := fun _ _ => False) (G.blk ok s H C cl fp) hel).1, fun _ => rfl, fun σ H Q q => lcz_down q⟩
        · cases h
      · cases h
    · cases h
  · cases h
theorem cSl_ok {f : Stmt → Option S} (ih : ∀ e m, f e = some m → PS X e (tF g EV (evS gs F m))) : ∀ {es : List Stmt} {ms : List S}, cSl f es = some ms → PSs X es (tF g EV (evSs gs F ms))
  | [], ms, h => by
    cases h
    refine pss_mono pss_nil fun D σ H q => ?_
    obtain ⟨rho, A, sd, hr, hs, z⟩ := q
    exact PostF.here z hr σ hs
  | e :: es, ms, h => by
    unfold cSl at h
    split at h
    · rename_i m ms' h1 h2
      cases h
      refine pss_mono (pss_cons (ih e m h1) (cSl_ok ih h2)) fun D σ H q => ?_
      obtain ⟨rho, A, sd, hr, hs, z⟩ := q
      refine ⟨rho, A, sd, hr, hs, (stepF z).mono (fun x q rho1 H1 e1 hr1 => ?_) fun _ _ z => z⟩
      have q := q rho1 H1 e1
      obtain ⟨f, A1⟩ := x
      cases f with
      | nx sd1 => exact fun σ1 hs1 => ⟨rho1, A1, sd1, hr1, hs1, q⟩
      | rt d => exact fun v rv => PostF.here q hr1 v rv
    · cases h
theorem cS_ok : ∀ (n : Nat) {s : Stmt} {m : S}, Good X c g gs F → cS n c s = some m → PS X s (tF g EV (evS gs F m))
  | 0, _, _, _, h => by cases h
  | n + 1, s, m, G, h => by
    unfold cS at h
    split at h
    · -- name = [..]
      rename_i y py elt gens scope pos spos
      split at h
      · rename_i hc
        rw [Bool.and_eq_true, Bool.and_eq_true, Bool.not_eq_true'] at hc
        split at h
        · rename_i i e hi he
          cases h
          obtain ⟨tg, iter, own, wi, gg, te, rfl, hp, ok, hg, hel, hf, hd⟩ := lc_parts (EV := EV) n G he
          have hl' : X.env.scope.names.lookup y = some .local := by rw [G.hsc]; exact locB_ok hc.1.1
          refine ps_mono (ps_setLc (spos := spos) G.calm G.nd (by rw [G.hN]; exact posIn_ok hi) hl' (sw_true (by rw [G.hsc]; exact G.fk) hl' hc.1.2 hc.2) hp ok hg (fun _ _ _ _ _ => pts_nil) hel hf) fun D σ H q => ?_
          exact hd _ _ _ (set_down q)
        · cases h
      · cases h
    · -- name = e
      rename_i y py e spos _
      split at h
      · rename_i hc
        rw [Bool.and_eq_true, Bool.not_eq_true'] at hc
        split at h
        · rename_i i e' hi he
          cases h
          have hl' : X.env.scope.names.lookup y = some .local := by rw [G.hsc]; exact locB_ok hc.1
          exact ps_mono (ps_set G.nd (by rw [G.hN]; exact posIn_ok hi) (.inl hl') (cE_ok n (EV := EV) G he).1 (swap_no hc.2) (.inr hl')) fun D σ H q => set_down q
        · cases h
      · cases h
    · -- a, b = e
      rename_i ts tk tp e spos
      split at h
      · rename_i hc
        rw [Bool.and_eq_true, Bool.not_eq_true', Bool.not_eq_true'] at hc
        split at h
        · rename_i is_ e' hi he
          cases h
          obtain ⟨q1, q2, q3⟩ := names_each G hi
          exact ps_mono (ps_asg (cE_ok n (EV := EV) G he).1 (pg_tup G.calm q1 q2 q3) (swapS_no hc.1) (stores_no hc.2) rfl) fun D σ H q => unp_down q
        · cases h
      · cases h
    · -- if
      split at h
      · rename_i t a b ht ha hb
        cases h
        refine ps_mono (ps_if (cE_ok n (EV := EV) G ht).2 (cSl_ok (fun e m h => cS_ok n G h) ha) (cSl_ok (fun e m h => cS_ok n G h) hb)) fun D σ H q => ?_
        obtain ⟨rho, A, sd, hr, hs, z⟩ := tF_seq (f := fun x sd => match x.1 with
          | .bl true => evSs gs F a sd x.2
          | .bl false => evSs gs F b sd x.2
          | _ => .bad) q
        refine ⟨rho, A, sd, hr, hs, z.mono (fun x q rho1 H1 v e1 hr1 rv => ?_) fun _ _ z => z⟩
        obtain ⟨rho, A, sd, d, hr, hs, r1, z⟩ := q rho1 H1 v e1 hr1 rv
        dsimp only at z
        split at z
        · cases r1; exact ⟨true, rfl, iteT ⟨rho, A, sd, hr, hs, z⟩⟩
        · cases r1; exact ⟨false, rfl, iteF ⟨rho, A, sd, hr, hs, z⟩⟩
        · exact z.elim
      · cases h
    · -- return
      rw [Option.map_eq_some_iff] at h
      obtain ⟨e', he, rfl⟩ := h
      refine ps_mono (ps_ret (cE_ok n (EV := EV) G he).1) fun D σ H q => ?_
      obtain ⟨rho, A, sd, hr, hs, z⟩ := tF_seq (f := fun x sd => .ret (.rt x.1, x.2)) q
      refine ⟨rho, A, sd, hr, hs, z.mono (fun x q rho1 H1 v e1 hr1 rv => ?_) fun _ _ z => z⟩
      obtain ⟨rho, A, sd, d, hr, hs, r1, z⟩ := q rho1 H1 v e1 hr1 rv
      exact PostF.here z hr v r1
    · -- pass
      cases h
      refine ps_mono ps_pass fun D σ H q => ?_
      obtain ⟨rho, A, sd, hr, hs, z⟩ := q
      exact PostF.here z hr σ hs
    · cases h
end
end Mi
/-! Mi10: the defs of a text, by their levels. -/
namespace Mi
open PySem PySem.Spec PyProof.Rows L2
/-- what the global names mean -/
structure GlF (K : PySem.W.Frag) (mg : Str → Option Value) (g : Gv) (gl : Str → Option Gn) : Prop where
  fn : ∀ x f, gl x = some (.fn f) → mg x = some (.ref (g.fns f))
  cl : ∀ x k, gl x = some (.cl k) → mg x = some (.ref (g.cls k))
  kp : ∀ x k, gl x = some (.cl k) → PySem.W.keepIn K (.ref (g.cls k)) = true
  bi : ∀ x b, gl x = some (.bi b) → x = biS b ∧ mg x = none
  isi : ∀ x, gl x = some .isi → x = "isinstance" ∧ mg x = none
  zip : ∀ x, gl x = some .zip → x = "zip" ∧ mg x = none
  ty : ∀ x n, gl x = some (.ty n) → mg x = none ∧ bootBuiltins x = some (.type n.nm) ∧ x ≠ "__name__"
  dbg : ∀ x q, gl x = some q → (x == ("__debug__" : Str)) = false
/-- a def of the text: its name, its statement, its slots, its parameters -/
structure Dd where
  x : Str
  st : Stmt
  N : List Str
  ps : List Str
/-- a def that keeps its promise at the level m -/
structure FnL (P : Program) (w : World) (K : PySem.W.Frag) (mg : Str → Option Value) (base : Heap) (g : Gv) (F : Fn) (lv : Nat) (f : Nat) : Prop where
  run : ∃ (fd : FuncData) (ps : List Str), FnOk P w K mg base CX0 lv (g.fns f) fd ps (fun vs H Q E => vs.length = ps.length ∧ spM g F f vs H Q E) ∧ PySem.W.keepIn K (.ref (g.fns f)) = true ∧ Binds K fd ps [] ∧
    ∀ ds A P E, (F f ds A).Sat P E → ds.length = ps.length
theorem startD_at {g : Gv} {rho : List Addr} {H : Hp} {N : List Str} {ds : List D} {vs : List V} (r : Rs g rho H ds vs) : RSt g rho H (startD N.length ds) (L2.start N vs) := by
  refine ⟨by unfold startD L2.start; simp [r.length], fun i d h => ?_⟩
  unfold startD at h
  by_cases hi : i < ds.length
  · rw [List.getElem?_append_left (by simpa using hi), List.getElem?_map] at h
    cases e : ds[i]? with
    | none => rw [e] at h; cases h
    | some a =>
      rw [e] at h
      cases h
      obtain ⟨v, h1, h2⟩ := r.get e
      refine ⟨v, ?_, h2⟩
      unfold L2.start
      rw [List.getElem?_append_left (by rw [List.length_map, ← r.length]; exact hi), List.getElem?_map, h1]
      rfl
  · rw [List.getElem?_append_right (by simpa using hi), List.getElem?_replicate] at h
    split at h <;> cases h
section
variable {P : Program} {w : World} {K : PySem.W.Frag} {mg : Str → Option Value} {base : Heap} {g : Gv} {gs : Gs} {gl : Str → Option Gn} {defs : Nat → Option Df}
theorem fnL_zero {fd : FuncData} {ps : List Str} {lv f : Nat} (hk : PySem.W.keepIn K (.ref (g.fns f)) = true) (hb : Binds K fd ps []) : FnL P w K mg base g (evF gs defs 0) lv f :=
  ⟨fd, ps, ⟨fun _ _ _ _ h => h.1, fun A outer s H args us vs Q E _ _ _ _ h => by obtain ⟨_, rho, A, ds, _, _, z⟩ := h; exact z.elim⟩, hk, hb, fun _ _ _ _ z => z.elim⟩
/-- what stands behind every body -/
structure Behind (P : Program) (w : World) (K : PySem.W.Frag) (mg : Str → Option Value) (g : Gv) (gs : Gs) (gl : Str → Option Gn) : Prop where
  fx : Fx gs g K
  glf : GlF K mg g gl
  kp : ∀ c q, gs.xcl c = some q → PySem.W.keepIn K (.ref (g.cls c)) = true
  xc : ∀ Y : Cx, Y.prog = P → Y.w = w → Y.K = K → Y.mg = mg → Y.calm = true → Room 4 Y.A → XcR Y g gs
theorem good_of (B : Behind P w K mg g gs gl) {F : Fn} {lv : Nat} {N ps : List Str} {qual : Str} {scope : Scope} {f : Addr} {cd : Value} {A : Around} {outer : List Env} {s : Shared} {H : Hp} {E : XK} (S : FnScope N ps scope)
    (hr : Room lv (A.deeper (envOfC qual scope s.heap.objs.size f cd))) (hl : 4 ≤ lv) (hf : ∀ x f, gl x = some (.fn f) → FnL P w K mg base g F lv f) :
    Good (cxOf CX0 P w K mg base N qual scope f cd A outer s H E).nox ⟨N, scope, gl⟩ g gs F where
  calm := rfl
  nd := S.nd
  hN := rfl
  hsc := rfl
  fk := S.kind
  hu := hr.units
  fx := B.fx
  fn := fun x f h => by
    obtain ⟨fd, ps, h1, h2, h3, h4⟩ := (hf x f h).run
    exact ⟨B.glf.fn x f h, CX0, lv, fd, ps, fun _ _ _ _ _ z => z, h1, hr, h2, h3, h4⟩
  cl := B.glf.cl
  kp := B.glf.kp
  bi := B.glf.bi
  isi := B.glf.isi
  zip := B.glf.zip
  ty := B.glf.ty
  dbg := B.glf.dbg
  xc := ⟨B.kp, fun Y h => B.xc Y h.p h.w h.k h.m h.c (by rw [h.a]; exact hr.mono hl)⟩
theorem up_len {d : Dd} {f m : Nat} {body : List S} (hd : defs (f + 2) = some ⟨d.ps.length, d.N.length, body⟩) : ∀ ds A P E, (evF gs defs (m + 1) (f + 2) ds A).Sat P E → ds.length = d.ps.length := fun ds A P E h => by
  simp only [evF, hd] at h
  split at h
  · rename_i q; exact q.1
  · exact h.elim
/-- one level up, for a def of the text -/
theorem fnOk_up (B : Behind P w K mg g gs gl) {d : Dd} {fd : FuncData} {f m lv fu : Nat} {body : List S} (Fu : L2.Fun K d.x d.x d.st (g.fns (f + 2)) fd) (S : FnScope d.N d.ps (defScope d.st))
    (hc : cSl (cS fu ⟨d.N, defScope d.st, gl⟩) (defBody d.st) = some body) (hd : defs (f + 2) = some ⟨d.ps.length, d.N.length, body⟩) (hl : 4 ≤ lv) (hf : ∀ x f, gl x = some (.fn f) → FnL P w K mg base g (evF gs defs m) lv f) :
    FnOk P w K mg base CX0 (lv + 1) (g.fns (f + 2)) fd d.ps (fun vs H Q E => vs.length = d.ps.length ∧ spM g (evF gs defs (m + 1)) (f + 2) vs H Q E) := by
  refine Fu.ok S (fun vs H Q E h => h.1) (fun cdv A outer s H vs Q E hr h => ?_)
  obtain ⟨hv, rho, A0, ds, hr0, rs, z⟩ := h
  refine ⟨_, cSl_ok (EV := fun _ _ => False) (fun e mm h => cS_ok fu (good_of B S hr hl hf) h) hc, rho, A0, startD d.N.length ds, hr0, startD_at rs, ?_⟩
  simp only [evF, hd] at z
  split at z
  · refine (T.Sat.bind z).mono (fun x q rho' H' e hr' => ?_) fun _ _ z => z.elim
    obtain ⟨fl, A1⟩ := x
    cases fl with
    | nx sd => exact fun σ _ => q rho' H' _ e hr' .non
    | rt dd => exact fun v rv => q rho' H' v e hr' rv
  · exact z.elim
theorem fnL_up (B : Behind P w K mg g gs gl) {d : Dd} {fd : FuncData} {f m lv fu : Nat} {body : List S} (Fu : L2.Fun K d.x d.x d.st (g.fns (f + 2)) fd) (hb : Binds K fd d.ps []) (S : FnScope d.N d.ps (defScope d.st))
    (hc : cSl (cS fu ⟨d.N, defScope d.st, gl⟩) (defBody d.st) = some body) (hd : defs (f + 2) = some ⟨d.ps.length, d.N.length, body⟩) (hl : 4 ≤ lv) (hf : ∀ x f, gl x = some (.fn f) → FnL P w K mg base g (evF gs defs m) lv f) :
    FnL P w K mg base g (evF gs defs (m + 1)) (lv + 1) (f + 2) :=
  ⟨fd, d.ps, fnOk_up B Fu S hc hd hl hf, Fu.kp, hb, up_len hd⟩
end
end Mi
/-! Mi11: what the two defs of the bag come to. -/
namespace Mi
open PySem PySem.Spec PyProof.Rows L2
/-- a statement, a word behind it, the rest from that word -/
def tMid (t u : TS) : TS := fun D σ H => ∃ M : L2.St → Hp → Prop, t { D with nx := M } σ H ∧ ∀ σ' H', M σ' H' → u D σ' H'
theorem pss_mid {X : Cx} {st : Stmt} {rest : List Stmt} {t u : TS} (h1 : PS X st t) (h2 : PSs X rest u) : PSs X (st :: rest) (tMid t u) := by
  constructor
  rintro pins s σ H D I ⟨M, hm, hu⟩
  apply wpAny_execs_cons
  refine thn (h1.run pins s σ H { D with nx := M } I hm) ?_
  intro f s1 q
  match f, q with
  | .next, ⟨σ1, H1, I1, q1⟩ => exact h2.run pins s1 σ1 H1 D I1 (hu _ _ q1)
  | .ret v, q => exact q
  | .brk, q => exact q
  | .cont, q => exact q
theorem bag_inv {gs : Gs} {defs : Nat → Option Df} {m : Nat} {ds : List D} {A : List AO} {P : D × List AO → Prop} {E : D → List AO → Prop} (h : (evF gs defs (m + 1) 0 ds A).Sat P E) : ds = [.scr] ∧ P (.nm A.length, A ++ [.bag]) := by
  simp only [evF] at h
  split at h
  · exact ⟨rfl, h⟩
  · exact h.elim
theorem pull_inv {gs : Gs} {defs : Nat → Option Df} {m : Nat} {ds : List D} {A : List AO} {P : D × List AO → Prop} {E : D → List AO → Prop} (h : (evF gs defs (m + 1) 1 ds A).Sat P E) :
    ∃ b k, ds = [.nm b, .int k] ∧ A[b]? = some .bag ∧ 0 < k ∧ k < 1073741824 ∧ ∀ i : Nat, i < k.toNat → P (.int i, A) := by
  simp only [evF] at h
  split at h
  · split at h
    · rename_i b k _ hb
      split at h
      · rename_i hk
        exact ⟨b, k, rfl, hb, hk.1, hk.2, h⟩
      · exact h.elim
    · exact h.elim
  · exact h.elim
theorem cut_ints (ns : List Int) (lo hi : Option Int) : ∃ ms : List Int, cutV (ns.map V.int) lo hi = ms.map V.int ∧ ms.length ≤ ns.length := by
  refine ⟨(ns.drop (HT.sIx (ns.map V.int).length 0 lo)).take (HT.sIx (ns.map V.int).length (ns.map V.int).length hi - HT.sIx (ns.map V.int).length 0 lo), ?_, ?_⟩
  · unfold cutV
    rw [List.map_take, List.map_drop]
  · rw [List.length_take, List.length_drop]; omega
theorem rd_ix {K : PySem.W.Frag} {σ : L2.St} {H : Hp} {n : Nat} {p : Addr} {xs : List V} {j : Int} {v : V} {Q : VK} (h0 : σ[n]? = some (some (.ref p))) (hp : H p = some (.lst xs)) (h : atI xs j = some v) (q : Q v H) : tOp (rIx K) (tVar n) (tC (.int j)) σ H Q :=
  ⟨_, h0, .inl ⟨p, xs, j, v, rfl, rfl, .of hp, h, q⟩⟩
/-- the new bag -/
theorem bag_made {g : Gv} {rho : List Addr} {H : Hp} {A : List AO} {Q : VK} {ns : List Int} {p p2 l p3 : Addr} {salt : Int} (hr : HR g rho H A) (hl : ns.length ≤ 63) (h0 : 0 ≤ salt) (h1 : salt < 2147483587) (q : Post g rho H Q (.nm A.length, A ++ [.bag]))
    (hp : H p = none) (hp2 : upd H p (.lst (ns.map V.int)) p2 = none) (hl2 : upd (upd H p (.lst (ns.map V.int))) p2 (.lst (ns.map V.int)) l = none)
    (hp3 : upd (upd (upd H p (.lst (ns.map V.int))) p2 (.lst (ns.map V.int))) l (.lst (ns.map V.int)) p3 = none) :
    Q (.ref p3) (upd (upd (upd (upd H p (.lst (ns.map V.int))) p2 (.lst (ns.map V.int))) l (.lst (ns.map V.int))) p3 (.lst [.ref l, .int 0, .int 0, .int salt])) := by
  have e1 := Ext.new (rho := rho) (o := .lst (ns.map V.int)) hp
  have r1 := hr.new (o := .lst (ns.map V.int)) hp
  have e2 := Ext.new (rho := rho) (o := .lst (ns.map V.int)) hp2
  have r2 := r1.new (o := .lst (ns.map V.int)) hp2
  have e3 := Ext.new (rho := rho) (o := .lst (ns.map V.int)) hl2
  have r3 := r2.new (o := .lst (ns.map V.int)) hl2
  have e4 := Ext.name (rho := rho) (o := .lst [.ref l, .int 0, .int 0, .int salt]) hp3
  have hln : l ∉ rho := r2.out hl2
  obtain ⟨o1, o2⟩ := e4.out hln upd_same
  refine q _ _ _ (((e1.trans e2).trans e3).trans e4) (r3.name (ao := .bag) hp3 ⟨l, ns, 0, 0, salt, upd_same, o1, o2, hl, Int.le_refl _, h0, h1⟩) (.nm ?_)
  rw [← hr.len, List.getElem?_append_right (Nat.le_refl _), Nat.sub_self]
  rfl
/-- the bag behind a draw -/
theorem bag_kept {g : Gv} {rho : List Addr} {H H' : Hp} {A : List AO} {b : Nat} {p q : Addr} {ns : List Int} {i r s : Int} (hr : HR g rho H A) (hb : A[b]? = some .bag) (hp : rho[b]? = some p) (hq : q ∉ rho) (hn : H q = some (.lst (ns.map V.int))) (hl : ns.length ≤ 63)
    (h1 : H' p = some (.lst [.ref q, .int i, .int r, .int s])) (h2 : ∀ c, c ≠ p → H' c = H c) (hi : 0 ≤ i) (hs0 : 0 ≤ s) (hs1 : s < 2147483587) : HR g rho H' A ∧ Ext rho H rho H' := by
  have eH : H' = upd H p (.lst [.ref q, .int i, .int r, .int s]) := by
    funext c
    by_cases hc : c = p
    · subst hc; rw [upd_same, h1]
    · rw [upd_ne hc, h2 c hc]
  have hm : p ∈ rho := List.mem_of_getElem? hp
  have hqp : q ≠ p := fun e => hq (by rw [e]; exact hm)
  subst eH
  have z := hr.mut (o := .lst [.ref q, .int i, .int r, .int s]) (ao := .bag) hp ⟨q, ns, i, r, s, upd_same, hq, by rw [upd_ne hqp]; exact hn, hl, hi, hs0, hs1⟩
  have eA : A.set b .bag = A := by
    refine List.ext_getElem? fun j => ?_
    by_cases hj : b = j
    · subst hj
      rw [List.getElem?_set_self (List.getElem?_eq_some_iff.mp hb).1, hb]
    · rw [List.getElem?_set_ne hj]
  rw [eA] at z
  exact ⟨z, Ext.mut hm⟩
theorem emod_bounds (x k : Int) (h : 0 < k) : 0 ≤ x % k ∧ x % k < k := ⟨Int.emod_nonneg x (by omega), Int.emod_lt_of_pos x h⟩
theorem pull_done {g : Gv} {rho : List Addr} {H H' : Hp} {A : List AO} {b : Nat} {p q : Addr} {ns : List Int} {i r s x k : Int} {Q : VK} (hr : HR g rho H A) (hb : A[b]? = some .bag) (hp : rho[b]? = some p) (hq : q ∉ rho) (hn : H q = some (.lst (ns.map V.int))) (hl : ns.length ≤ 63)
    (h1 : H' p = some (.lst [.ref q, .int i, .int r, .int s])) (h2 : ∀ c, c ≠ p → H' c = H c) (hi : 0 ≤ i) (hs0 : 0 ≤ s) (hs1 : s < 2147483587) (hk : 0 < k) (w : ∀ i : Nat, i < k.toNat → Post g rho H Q (.int i, A)) : Q (.int (x % k)) H' := by
  obtain ⟨z, e⟩ := bag_kept hr hb hp hq hn hl h1 h2 hi hs0 hs1
  obtain ⟨e1, e2⟩ := emod_bounds x k hk
  have ei : x % k = (((x % k).toNat : Nat) : Int) := (Int.toNat_of_nonneg e1).symm
  have := w (x % k).toNat (by omega) rho H' (.int (x % k)) e z
  exact this (by rw [← ei]; exact .int _)
end Mi
/-! Mi12: the making of an exception whose __init__ says super().__init__(text), then stores. -/
namespace Mi
open PySem PySem.Spec PyProof.Rows L2 PySem.W Builtin.ObjectAttr
inductive Xb where
  | ve | le | ie
  deriving DecidableEq
def Xb.B : Xb → String
  | .ve => "ValueError" | .le => "LookupError" | .ie => "IndexError"
def Xb.nw : Xb → String
  | .ve => "ValueError.__new__" | .le => "LookupError.__new__" | .ie => "IndexError.__new__"
def Xb.it : Xb → String
  | .ve => "ValueError.__init__" | .le => "LookupError.__init__" | .ie => "IndexError.__init__"
def Xb.bm : Xb → List Value
  | .ve => [.type "ValueError", .type "Exception", .type "BaseException", .type "object"]
  | .le => [.type "LookupError", .type "Exception", .type "BaseException", .type "object"]
  | .ie => [.type "IndexError", .type "LookupError", .type "Exception", .type "BaseException", .type "object"]
theorem Xb.fb : ∀ b : Xb, ExcBaseFacts b.B b.nw b.it b.bm
  | .ve => F.excBase_ValueError
  | .le => F.excBase_LookupError
  | .ie => F.excBase_IndexError
theorem Xb.kf : ∀ b : Xb, KxsFacts b.B b.it
  | .ve => kxs_ValueError
  | .le => kxs_LookupError
  | .ie => kxs_IndexError
theorem Xb.sf : ∀ b : Xb, StoreFacts b.B b.bm "object.__setattr__" "object"
  | .ve => F.store_ValueError
  | .le => F.store_LookupError
  | .ie => F.store_IndexError
/-! ### stores -/
section
variable {prog : Program} {w : World} {A : Around} {E : Value → Shared → Prop} {hp : Heap} {g : Array GenState} {d : Drawn} {t : Nat} {os : OsState} {K : Frag} {C x dx t0 : Addr} {b : Xb} {name : Str} {v : Value}
theorem st_new {Q : Unit → Shared → Prop} (X : K.In hp) (hx : hp.get? x = some (excObj C t0 none .none)) (hs : findIn K (.ref C) "__setattr__" = some (some (.builtin "object.__setattr__"))) (ho : excOver K C b.bm = true)
    (ht : takerIn K C name = some none) (hh : hasDictIn K C = true)
    (hq : ∀ h' tk dx, (∀ c o, c ≠ x → hp.get? c = some o → h'.get? c = some o) → hp.objs.size ≤ dx → dx ≠ x → h'.get? x = some (excObj C t0 (some dx) .none) → h'.Ns1 dx (fun y => if y = name then some v else none) → Q () ⟨h', g, d, tk, os⟩) :
    wpAny (model prog w) A (setAttr (.ref x) name v) Q E ⟨hp, g, d, t, os⟩ := by
  have hxs : x ≠ hp.objs.size := Nat.ne_of_lt (Heap.lt_size hx)
  refine set_plain (od := none) X ⟨hx, rfl, rfl, trivial⟩ hs (osa_openX (od := none) (r := none) b.sf X ⟨hx, rfl, rfl, trivial⟩ ho ht fun bb => ?_)
  obtain ⟨cd, hc, hd'⟩ := any_some hh
  refine wpAny_bind (wpAny_pure (wpAny_bind (instanceDict_exc hx (looks_clsIn X hc) hd' ?_)))
  show wpAny _ _ (storeInDict hp.objs.size _ name v) _ _ _
  refine HandSPX.store_in_new ⟨_, #[], _, (Heap.get?_update_ne _ _ _ _ hxs.symm).trans (Heap.get?_push_at rfl rfl), rfl, fun e he => absurd he (by simp), fun _ => rfl⟩ fun h' tk' hn' hsb => ?_
  have hx1 : (hp.push (dictOf [] 0)).get? x = some (excObj C t0 none .none) := Heap.get?_push_of_some _ hx
  refine hq h' tk' hp.objs.size (fun c o hc ho => ?_) (Nat.le_refl _) hxs.symm ?_ hn'
  · exact (hsb.2 c (Nat.ne_of_lt (Heap.lt_size ho))).trans ((Heap.get?_update_ne _ _ _ _ hc).trans (Heap.get?_push_of_some _ ho))
  · exact (hsb.2 x hxs).trans (Heap.get?_update_self _ hx1 rfl)
theorem st_old {Q : Unit → Shared → Prop} {m0 : Str → Option Value} {nl : List Str} (X : K.In hp) (hx : hp.get? x = some (excObj C t0 (some dx) .none)) (hn : hp.Ns1 dx m0) (hw : Within m0 nl) (hz : nl.length ≤ 1000) (hs : findIn K (.ref C) "__setattr__" = some (some (.builtin "object.__setattr__"))) (ho : excOver K C b.bm = true)
    (ht : takerIn K C name = some none) (hh : hasDictIn K C = true)
    (hq : ∀ h' tk, (∀ c o, c ≠ dx → hp.get? c = some o → h'.get? c = some o) → h'.Ns1 dx (fun y => if y = name then some v else m0 y) → Q () ⟨h', g, d, tk, os⟩) :
    wpAny (model prog w) A (setAttr (.ref x) name v) Q E ⟨hp, g, d, t, os⟩ := by
  obtain ⟨oD, esD, epD, hoD, hdD, _⟩ := id hn
  refine set_plain (od := some oD) X ⟨hx, rfl, rfl, hoD⟩ hs (osa_openX (od := some oD) (r := none) b.sf X ⟨hx, rfl, rfl, hoD⟩ ho ht fun bb => ?_)
  obtain ⟨cd, hc, hd'⟩ := any_some hh
  refine wpAny_bind (wpAny_pure (wpAny_bind (wpAny_bind (wpAny_loadPart hx (wpAny_bind ((looks_clsIn X hc).here ?_))))))
  rw [hd']
  refine wpAny_pure (a := some dx) ?_
  exact OEX.store_in_old hn hw hz fun h' tk' hn' hsb => hq h' tk' (fun c o hc ho => (hsb.2 c hc).trans ho) hn'
end
/-! ### the text of an __init__ -/
structure Xp where
  (p0 p1 p2 p3 p4 p5 q1 q2 q3 q4 r1 r2 r3 r4 : Pos)
  (j1 j2 : Nat)
def xs1 (p : Xp) (txt : Str) : Stmt := .Expr (.Call (.Attribute (.Call (.Name "super" p.p0) [] [] p.p1) "__init__" p.p2) [.Constant (.str txt) p.j1 p.p3] [] p.p4) p.p5
def xs2 (p : Xp) (tag : Str) : Stmt := .Assign [.Attribute (.Name "self" p.q1) "tag" p.q2] (.Constant (.str tag) p.j2 p.q3) p.q4
def xs3 (p : Xp) (f : Str) : Stmt := .Assign [.Attribute (.Name "self" p.r1) f p.r2] (.Name f p.r3) p.r4
def xbody (p : Xp) (txt tag : Str) : Option Str → List Stmt
  | none => [xs1 p txt, xs2 p tag]
  | some f => [xs1 p txt, xs2 p tag, xs3 p f]
def xrest (p : Xp) (tag : Str) : Option Str → List Stmt
  | none => [xs2 p tag]
  | some f => [xs2 p tag, xs3 p f]
/-- what stands in the written part of a class of exceptions -/
structure XcF (K : Frag) (prog : Program) (mg : Str → Option Value) (C : Addr) (b : Xb) (tag : Str) (o : Option Str) (fI : Addr) (fd : FuncData) (cc cda : Addr) (p : Xp) (txt : Str) (a1 : Arg) : Prop where
  init : findIn K (.ref C) "__init__" = some (some (.ref fI))
  fn : ∃ oc od osl, K.lookup fI = some ⟨oc, od, .func fd, osl⟩
  ift : isFn K (.ref fI) = true
  q : excInitIn K C b.bm b.nw = true
  cd : codeIn K fd.code fd.qualname = true
  code : fd.code = .ref cda
  cdf : ∃ ccl cdd vs ccs tf, K.lookup cda = some ⟨ccl, cdd, .fields vs, ccs⟩ ∧ vs[2]? = some (.str prog.main.file tf)
  clo : fd.closure = [(("__class__" : Str), cc)]
  cell : ∃ cl cld csl, K.lookup cc = some ⟨cl, cld, .cell (some (.ref C)), csl⟩
  gl : fd.globals = mainGlobals
  bl : fd.builtins = builtinsNs
  hp : (fd.params.posonlyargs ++ fd.params.args).head? = some a1
  ha : a1.arg = "self"
  body : fd.body = .stmts (xbody p txt tag o)
  kd : fd.scope.kind = .function
  co : fd.scope.isCoroutine = false
  gen : fd.scope.isGenerator = false
  ce : ∀ x ∈ fd.scope.names, x.2 ≠ .cell
  lsu : fd.scope.names.lookup ("super" : Str) = some .globalImplicit
  lcl : fd.scope.names.lookup ("__class__" : Str) = some .free
  lse : fd.scope.names.lookup ("self" : Str) = some .local
  lf : ∀ f, o = some f → fd.scope.names.lookup f = some .local ∧ (f == ("__debug__" : Str)) = false ∧ f ≠ "tag" ∧ f ≠ "self"
  mro : mroIn K C (.ref C) = some true
  sup : mg "super" = none
  top : (prog.main.scope.names.lookup ("super" : Str)).isSome = false
  tp : nsIn K cStatics "thirdparty.any" = some none
  si : ks_superIn K C C "__init__" = some (some (.builtin b.it))
  sb : subIn K (.ref C) (.type b.B) = some true
  sa : findIn K (.ref C) "__setattr__" = some (some (.builtin "object.__setattr__"))
  ov : excOver K C b.bm = true
  tt : takerIn K C "tag" = some none
  tf : ∀ f, o = some f → takerIn K C f = some none
  hd : hasDictIn K C = true
  ln : (p.p2.endLine == p.p4.line) = true
/-- the values under the parameters' names -/
def xbind (o : Option Str) (e : Addr) (u : Value) : List (Str × Value) := match o with
  | none => [("self", .ref e)]
  | some f => [("self", .ref e), (f, u)]
def xdict (o : Option Str) (tag : Str) (t : Tok) (u : Value) : Str → Option Value := match o with
  | none => fun y => if y = "tag" then some (.str tag t) else none
  | some f => fun y => if y = f then some u else if y = "tag" then some (.str tag t) else none
section
variable {prog : Program} {w : World} {A : Around} {K : Frag} {mg : Str → Option Value} {C : Addr} {b : Xb} {tag : Str} {o : Option Str} {fI : Addr} {fd : FuncData} {cc cda : Addr} {p : Xp} {txt : Str} {a1 : Arg}
theorem super_he {env : Env} {p : Xp} {txt : Str} (h : (p.p2.endLine == p.p4.line) = true) : ∃ pl : Sem Bool, eval (.Call (.Attribute (.Call (.Name "super" p.p0) [] [] p.p1) "__init__" p.p2) [.Constant (.str txt) p.j1 p.p3] [] p.p4) env = (do
      let ov ← attributeBase (.Call (.Name "super" p.p0) [] [] p.p1) "__init__" env (eval (.Call (.Name "super" p.p0) [] [] p.p1) env)
      standAt p.p2.atName
      let (f, first) ← holding [ov] (getMethod ov "__init__" pl)
      callWith p.p4 f first (backTo p.p4 (starEach [.Constant (.str txt) p.j1 p.p3] env)) []) := by
  refine ⟨(do return (← importBound (.Call (.Name "super" p.p0) [] [] p.p1) env).getD true), ?_⟩
  rw [arm_eval_Call]
  unfold methodCall methodCallPos
  rw [h]
  rfl
theorem xinit_run (T : XcF K prog mg C b tag o fI fd cc cda p txt a1) {hp h2 : Heap} {g : Array GenState} {d : Drawn} {t : Nat} {os : OsState} {e t0 : Addr} {u : Value} {args : Args} {R : Result → Shared → Prop}
    (hroom : A.depth < recursionLimit) (X : K.In hp) (G : hp.Ns mainGlobals mg) (B : ∃ mb, hp.Ns builtinsNs mb ∧ ∀ x : Str, x ≠ "__name__" → mb x = bootBuiltins x) (hlim : hp.NoLimit) (kp : ∀ b o, hp.get? b = some o → h2.get? b = some o)
    (hn : hp.get? e = none) (he : h2.get? e = some (excObj C t0 none .none)) (hsz : hp.objs.size ≤ h2.objs.size) (hb : BindsTo ⟨h2, g, d, t, os⟩ fd args (xbind o e u))
    (hq : ∀ h3 t3 dx t1 tk, (∀ b o, hp.get? b = some o → h3.get? b = some o) → h3.get? e = some (excObj C t1 (some dx) .none) → hp.objs.size ≤ dx → dx ≠ e → h3.Ns1 dx (xdict o tag tk u) → R (.ok (.ret .none)) ⟨h3, g, d, t3, os⟩) :
    codeAny (model prog w) A (.call (.ref fI) args) R ⟨h2, g, d, t, os⟩ := by
  obtain ⟨oc, od, osl, lkI⟩ := T.fn
  obtain ⟨ccl, cdd, vs, ccs, tf, lkc, hvs⟩ := T.cdf
  obtain ⟨cl, cld, csl, lkcell⟩ := T.cell
  have X2 : K.In h2 := X.keeps kp
  have hloc : ∀ x ∈ xbind o e u, fd.scope.names.lookup x.1 = some .local := fun x hx => by
    cases ho : o with
    | none =>
      rw [ho] at hx
      have : x = (("self" : Str), Value.ref e) := by simpa [xbind] using hx
      rw [this]; exact T.lse
    | some f =>
      rw [ho] at hx
      have : x = (("self" : Str), Value.ref e) ∨ x = (f, u) := by simpa [xbind] using hx
      rcases this with rfl | rfl
      · exact T.lse
      · exact (T.lf f ho).1
  refine ks_codeAny_call_defAt (fd := fd) (body := xbody p txt tag o) (binds := xbind o e u) hroom (X2 _ _ lkI) rfl (hlim.keeps kp) (codeRec_of X2 T.cd) T.body hb T.ce hloc (fun h1 hns hk1 => ?_) T.co T.gen T.kd
  have hself : (xbind o e u).reverse.lookup ("self" : Str) = some (.ref e) := by
    cases ho : o with
    | none => rfl
    | some f =>
      have hf : (("self" : Str) == f) = false := by
        have := (T.lf f ho).2.2.2
        simpa [beq_eq_false_iff_ne] using this.symm
      show List.lookup ("self" : Str) [(f, u), ("self", .ref e)] = _
      rw [List.lookup_cons, hf]; rfl
  have kp1 : ∀ b o, hp.get? b = some o → h1.get? b = some o := fun b o q => hk1 b o (kp b o q)
  have F1 : Fr hp h2.objs.size h1 (fun x => (xbind o e u).reverse.lookup x) := ⟨hns, kp1, hsz⟩
  have neL : e ≠ h2.objs.size := Nat.ne_of_lt (Heap.lt_size he)
  have N1 : News hp h2.objs.size h1 [(e, excObj C t0 none .none)] := fun q hq => by
    rcases List.mem_singleton.mp hq with rfl
    exact ⟨hk1 _ _ he, neL, hn⟩
  have sc : (callEnv fd h2.objs.size fI).scope = fd.scope := rfl
  obtain ⟨cdD, hcdD, _⟩ := any_some T.hd
  obtain ⟨oD, hD1, hD2⟩ : ∃ oD, K.lookup C = some oD ∧ oD.data = .cls cdD := by
    unfold clsIn at hcdD
    split at hcdD
    · rename_i ho
      cases hcdD
      exact ⟨_, ho, rfl⟩
    · cases hcdD
  have rest : ∀ (h5 : Heap) (t5 : Nat) (t1 : Addr), Fr hp h2.objs.size h5 (fun x => (xbind o e u).reverse.lookup x) → h5.get? e = some (excObj C t1 none .none) →
      wpAny (model prog w) (A.deeper (callEnv fd h2.objs.size fI)) (execs (xrest p tag o) (callEnv fd h2.objs.size fI)) (fun f s' => R (.ok (.ret (match f with | .ret v => v | _ => .none))) s')
        (fun er s' => wpAny (model prog w) (A.deeper (callEnv fd h2.objs.size fI)) (leaving (callEnv fd h2.objs.size fI) er) (fun _ s'' => R (.error er) s'') (fun e' s'' => R (.error e') s'') s') ⟨h5, g, d, t5, os⟩ := by
    intro h5 t5 t1 F5 he5
    have X5 : K.In h5 := X.keeps F5.keep
    have l5 : hp.objs.size ≤ h5.objs.size := Nat.le_trans F5.above (Nat.le_of_lt F5.ns.lt)
    have nee : ∀ {c : Addr} {q : Obj}, hp.get? c = some q → c ≠ e := fun {c q} z y => by rw [y, hn] at z; cases z
    cases o with
    | none =>
      refine wpAny_execs_cons (plainObj_wpAny_Assign_Attribute (Calls.Constant_str (wpAny_Name (wpAny_loadName_local (env := callEnv fd h2.objs.size fI) T.kd T.lse F5.ns hself ?_) (by decide))))
      refine st_new (b := b) X5 he5 T.sa T.ov T.tt T.hd fun h6 t6 dx k6 dn ne hx hns6 => wpAny_execs_nil ?_
      exact hq h6 t6 dx t1 _ (fun c q z => k6 c q (nee z) (F5.keep c q z)) hx (Nat.le_trans l5 dn) ne hns6
    | some f =>
      obtain ⟨lf1, lf2, lf3, lf4⟩ := T.lf f rfl
      refine wpAny_execs_cons (plainObj_wpAny_Assign_Attribute (Calls.Constant_str (wpAny_Name (wpAny_loadName_local (env := callEnv fd h2.objs.size fI) T.kd T.lse F5.ns hself ?_) (by decide))))
      refine st_new (b := b) X5 he5 T.sa T.ov T.tt T.hd fun h6 t6 dx k6 dn ne hx hns6 => ?_
      have X6 : K.In h6 := X.keeps fun c q z => k6 c q (nee z) (F5.keep c q z)
      have ns6 : h6.Ns h2.objs.size (fun x => (xbind (some f) e u).reverse.lookup x) := by
        obtain ⟨oL, es, ep, hL, r⟩ := F5.ns
        exact ⟨oL, es, ep, k6 _ _ neL.symm hL, r⟩
      have hfv : (xbind (some f) e u).reverse.lookup f = some u := by
        show List.lookup f [(f, u), (("self" : Str), Value.ref e)] = some u
        rw [List.lookup_cons, show (f == f) = true from by simp]
      refine wpAny_execs_cons (plainObj_wpAny_Assign_Attribute (wpAny_Name (wpAny_loadName_local (env := callEnv fd h2.objs.size fI) T.kd lf1 ns6 hfv (wpAny_Name (wpAny_loadName_local (env := callEnv fd h2.objs.size fI) T.kd T.lse ns6 hself ?_) (by decide))) lf2))
      refine st_old (b := b) (nl := ["tag"]) X6 hx hns6 (fun y hy => ?_) (by decide) T.sa T.ov (T.tf f rfl) T.hd fun h7 t7 k7 hns7 => wpAny_execs_nil ?_
      · by_cases hy' : y = "tag"
        · rw [hy']; exact List.mem_singleton.mpr rfl
        · exact absurd (by rw [if_neg hy']) hy
      · have nd : ∀ {c : Addr} {q : Obj}, hp.get? c = some q → c ≠ dx := fun {c q} z y => by
          have := Heap.lt_size z
          rw [y] at this
          exact absurd (Nat.lt_of_lt_of_le this (Nat.le_trans l5 dn)) (Nat.lt_irrefl _)
        exact hq h7 t7 dx t1 _ (fun c q z => k7 c q (nd z) (k6 c q (nee z) (F5.keep c q z))) (k7 _ _ ne.symm hx) (Nat.le_trans l5 dn) ne hns7
  have eb : xbody p txt tag o = xs1 p txt :: xrest p tag o := by cases o <;> rfl
  rw [eb]
  have kdE : (callEnv fd h2.objs.size fI).scope.kind = .function := T.kd
  obtain ⟨pl, hee⟩ := super_he (env := callEnv fd h2.objs.size fI) (p := p) (txt := txt) T.ln
  refine ks_wpAt_execs_cons (ks_wpAt_Expr_any (ks_wpAt_MethodCall ?_ hee) (by simp [interactive, kdE]) rfl)
  obtain ⟨mb, B1, B2⟩ := B
  have I1 : InstAt h1 e (excObj C t0 none .none) C none := ⟨hk1 _ _ he, rfl, rfl, trivial⟩
  have X1 : K.In h1 := X.keeps kp1
  refine ks_wpAt_super_base (env := callEnv fd h2.objs.size fI) (fd := fd) (f := fI) (cc := cda) T.lsu T.lcl rfl rfl (X1 _ _ lkI) rfl T.hp T.code (X1 _ _ lkc) rfl hvs (by simp) T.top ?_
  refine ks_loadName_global kdE T.lsu (Calls.loadGlobal_builtin (env := callEnv fd h2.objs.size fI) (by show h1.Ns fd.globals mg; rw [T.gl]; exact G.keeps kp1) T.sup (by show h1.Ns fd.builtins mb; rw [T.bl]; exact B1.keeps kp1) ((B2 _ (by decide)).trans (by decide +kernel)) ⟨rfl, ?_⟩)
  refine wpAny_loadName_free (env := callEnv fd h2.objs.size fI) kdE T.lcl (by show fd.closure.lookup _ = _; rw [T.clo]; rfl) ⟨_, X1 _ _ lkcell, rfl⟩ ?_
  refine wpAny_loadName_local (env := callEnv fd h2.objs.size fI) kdE (by rw [T.ha]; exact T.lse) F1.ns (by rw [T.ha]; exact hself) ?_
  refine ks_wpAny_isType_cls (X1 _ _ hD1) hD2 ⟨rfl, ?_⟩
  refine ks_wpAny_call_super (X1 _ _ hD1) hD2 I1.at_ I1.cls (fun c q => by cases q) (looks_mroIn X1 T.mro) (fun h3 q3 k3 => ?_)
  obtain ⟨F3, N3, l3⟩ := ks_newsPush (s := ⟨h1, g, d, t + (xbind o e u).length, os⟩) F1 N1 rfl q3 k3
  have I3 : InstAt h3 e (excObj C t0 none .none) C none := ⟨k3 _ _ I1.at_, rfl, rfl, trivial⟩
  refine kxs_method (B := b.B) (i := b.it) (m := fun x => (xbind o e u).reverse.lookup x) b.kf F3 X N3 List.mem_cons_self I3 T.tp T.si T.sb rfl fun q4 h4 F4 N4 l4 => ?_
  refine kxs_callWith1 (i := b.it) (x := e) N4 List.mem_cons_self ?_
  show wpAny _ _ (spliced [(false, eval (.Constant (.str txt) p.j1 p.p3) (callEnv fd h2.objs.size fI))]) _ _ _
  refine Calls.spliced_cons (Calls.Constant_str (Calls.spliced_nil ⟨kxs_at N4 List.mem_cons_self, ?_⟩))
  have ne3 : e ≠ h1.objs.size := Nat.ne_of_lt (Heap.lt_size I1.at_)
  have ne4 : q4 ≠ e := (Nat.ne_of_lt (l4 (e, _) (List.mem_cons_of_mem _ List.mem_cons_self))).symm
  refine kxs_call (B := b.B) (i := b.it) (newId := b.nw) (bmB := b.bm) (m := fun x => (xbind o e u).reverse.lookup x) F4 X N4 b.fb T.q List.mem_cons_self (.tail ne4 (.tail ne3.symm (.head fun _ z => nomatch z))) ?_ fun t5 h5 F5 N5 l5 => ?_
  · show 1 ≤ sizeLine; decide
  · exact wpAt_of_wpAny (rest h5 _ t5 F5 (N5 (e, _) (by simp)).1)
end
end Mi
/-! Mi13: an exception is made by a keyword. -/
namespace Mi
open PySem PySem.Spec PyProof.Rows L2 PySem.W
section
variable {M : Model} {A : Around} {E : Value → Shared → Prop} {h : Heap} {g : Array GenState} {d : Drawn} {t : Nat} {os : OsState}
variable {nm q : Str} {C N : Addr} {bs bm bmB : List Value} {hdct : Bool} {sn : List Str} {sub : List Value} {ab : Bool} {col : Option Bool} {dd : Option Addr} {k0 k1 k2 k3 k5 : Option Value} {B newId initId : String} {f : Str} {u : Value}
theorem kw_check_new (Fb : ExcBaseFacts B newId initId bmB) (hT : ∀ X : String, bm.contains (.type X) = bmB.contains (.type X)) {Q : Unit → Shared → Prop}
    (hC : h.get? C = some (excClassObj nm q C N bs bm hdct sn sub ab col dd k0 k1 k2 k3 k5 newId)) (hq : Q () ⟨h, g, d, t, os⟩) :
    wpAny M A (checkBuiltinCall newId ⟨[.ref C], [(f, u)]⟩) Q E ⟨h, g, d, t, os⟩ := by
  have own : (Value.ref C :: bm).contains (.type B) = true := by rw [List.contains_cons, hT, Fb.hasB, Bool.or_true]
  have star1 := Fb.noStar
  simp only [checkBuiltinCall, Fb.newKind, Fb.newSplit, Fb.newRow]
  repeat (first
    | refine wpAny_loadPart_at hC ?_
    | (refine wpAny_isSubtype_exc hC ?_; rw [own])
    | refine wpAny_staticBase_exc hC ?_
    | refine wpAny_madeBy_exc hC ?_
    | simp only [bne_self_eq_false, Bool.false_eq_true, if_false]
    | wp_step)
  exact hq
theorem kw_check_call {Q : Unit → Shared → Prop} (hC : h.get? C = some (excClassObj nm q C N bs bm hdct sn sub ab col dd k0 k1 k2 k3 k5 newId)) (hq : Q () ⟨h, g, d, t, os⟩) :
    wpAny M A (checkBuiltinCall "type.__call__" ⟨[.ref C], [(f, u)]⟩) Q E ⟨h, g, d, t, os⟩ := by
  have e3 := tc_sub
  have isT : (⟨h, g, d, t, os⟩ : Shared).TypeIs (.ref C) "type" := ⟨_, hC, rfl⟩
  simp only [checkBuiltinCall, tc_kind, tc_split]
  repeat (any_goals (first
    | assumption
    | with_reducible refine wpAny_loadPart_at hC ?_
    | with_reducible refine wpAny_onRaise ?_
    | with_reducible refine wpAny_map ?_
    | wp_step))
end
section
variable {prog : Program} {w : World} {A : Around} {E : Value → Shared → Prop} {R : Result → Shared → Prop} {h : Heap} {g : Array GenState} {d : Drawn} {t : Nat} {os : OsState}
variable {nm q : Str} {C N : Addr} {bs bm bmB : List Value} {hdct : Bool} {sn : List Str} {sub : List Value} {ab : Bool} {col : Option Bool} {dd : Option Addr} {k0 k1 k2 k3 k5 : Option Value} {B newId initId : String} {f : Str} {u : Value}
theorem kw_new (Fb : ExcBaseFacts B newId initId bmB) (hT : ∀ X : String, bm.contains (.type X) = bmB.contains (.type X))
    (hC : h.get? C = some (excClassObj nm q C N bs bm hdct sn sub ab col dd k0 k1 k2 k3 k5 newId))
    (hq : R (.ok (.ret (.ref (h.objs.size + 1)))) ⟨(h.push (kdv_tup [])).push (PX.excO C h.objs.size), g, d, t, os⟩) :
    codeAny (model prog w) A (.builtin newId ⟨[.ref C], [(f, u)]⟩) R ⟨h, g, d, t, os⟩ := by
  have ends1 := Fb.ends
  have own : (Value.ref C :: bm).contains (.type B) = true := by rw [List.contains_cons, hT, Fb.hasB, Bool.or_true]
  have noA : (Value.ref C :: bm).contains (.type "AttributeError") = false := by rw [List.contains_cons, hT, Fb.noAttr]; rfl
  have noN : (Value.ref C :: bm).contains (.type "NameError") = false := by rw [List.contains_cons, hT, Fb.noName]; rfl
  have hrest : ([] : List Value).length ≤ sizeLine := Nat.zero_le _
  refine codeAny_builtinAt Fb.entry ?_
  unfold Builtin.«BaseException.__new__»
  refine PySem.wpAt_bind ?_
  show PySem.wpAt _ _ _ (stack >>= _) _ _ _
  refine PySem.wpAt_bind (PySem.wpAt_stack fun p below => wpAt_of_wpAny ?_)
  wp_walk
  refine wpAt_of_wpAny ?_
  rw [Fb.owner]
  repeat (first
    | with_reducible refine wpAny_madeHere_exc Fb.canon hC ?_
    | with_reducible refine wpAny_loadPart_at hC ?_
    | (with_reducible refine wpAny_isSubtype_exc hC ?_; first | rw [own] | rw [noA] | rw [noN])
    | wp_step)
  show R _ _
  rw [Heap.size_push]
  exact hq
theorem kw_type_call (Fb : ExcBaseFacts B newId initId bmB) (hT : ∀ X : String, bm.contains (.type X) = bmB.contains (.type X)) {fI : Addr} {Q : PySem.Fin → Shared → Prop}
    (hC : h.get? C = some (excClassObj nm q C N bs bm hdct sn sub ab col dd k0 k1 k2 k3 k5 newId))
    (hi : Looks (model prog w) h (typeLookup (.ref C) "__init__") (some (.ref fI))) (hb : ∀ self, Looks (model prog w) h (bindSpecial (.ref fI) self) (.ref fI, [self]))
    (hq : codeAny (model prog w) A (.call (.ref fI) ⟨[.ref (h.objs.size + 1)], [(f, u)]⟩)
      (fun r s' => match r with | .ok (.ret v) => v = .none ∧ Q (.done (.ret (.ref (h.objs.size + 1)))) s' | .ok _ => False | .error e => E e s')
      ⟨(h.push (kdv_tup [])).push (PX.excO C h.objs.size), g, d, t, os⟩) :
    wpAny (model prog w) A (Builtin.«type.__call__» ⟨[.ref C], [(f, u)]⟩) Q E ⟨h, g, d, t, os⟩ := by
  repeat (first
    | with_reducible refine wpAny_loadPart_at hC ?_
    | with_reducible refine wpAny_madeBy_exc hC ?_
    | wp_step)
  refine codeAny_call_builtin_code (Code.quiet_builtin _ Fb.quiet) (kw_check_new Fb hT hC ?_)
  refine kw_new Fb hT hC ?_
  show wpAny _ _ _ _ _ _
  have kk : ∀ b o, h.get? b = some o → ((h.push (kdv_tup [])).push (PX.excO C h.objs.size)).get? b = some o := fun b o z => Heap.get?_push_of_some _ (Heap.get?_push_of_some _ z)
  have hC1 := kk _ _ hC
  have got : ((h.push (kdv_tup [])).push (PX.excO C h.objs.size)).get? (h.objs.size + 1) = some (PX.excO C h.objs.size) := by heap_get
  have me : (Value.ref C :: bm).contains (.ref C) = true := by simp
  have i1 := hi.keeps kk
  have b1 := (hb (.ref (h.objs.size + 1))).keeps kk
  unfold isInstance
  repeat (first
    | with_reducible refine wpAny_loadPart_at got ?_
    | (with_reducible refine wpAny_isSubtype_exc hC1 ?_; rw [me])
    | wp_step)
  show wpAny _ _ (typeLookup (.ref C) _) _ _ _
  refine i1.at ?_
  refine wpAny_holding (wpAny_bind (b1.at ?_))
  refine wpAny_bind (wpAny_call (codeAny_mono hq fun r s' z => ?_))
  cases r with
  | error e => exact z
  | ok fl =>
    cases fl with
    | ret v =>
      obtain ⟨rfl, z⟩ := z
      first
        | exact wpAny_pure (wpAny_pure z)
        | (wp_walk; exact z)
    | next => exact z.elim
    | brk => exact z.elim
    | cont => exact z.elim
theorem kw_call (Fb : ExcBaseFacts B newId initId bmB) (hT : ∀ X : String, bm.contains (.type X) = bmB.contains (.type X)) {fI : Addr}
    (hC : h.get? C = some (excClassObj nm q C N bs bm hdct sn sub ab col dd k0 k1 k2 k3 k5 newId))
    (hi : Looks (model prog w) h (typeLookup (.ref C) "__init__") (some (.ref fI))) (hb : ∀ self, Looks (model prog w) h (bindSpecial (.ref fI) self) (.ref fI, [self]))
    (hq : codeAny (model prog w) (A.under (.builtin "type.__call__" ⟨[.ref C], [(f, u)]⟩)) (.call (.ref fI) ⟨[.ref (h.objs.size + 1)], [(f, u)]⟩) (InitBack (h.objs.size + 1) R)
      ⟨(h.push (kdv_tup [])).push (PX.excO C h.objs.size), g, d, t, os⟩) :
    codeAny (model prog w) A (.call (.ref C) ⟨[], [(f, u)]⟩) R ⟨h, g, d, t, os⟩ := by
  have e1 := tc_lookup
  have e2 := tc_bind (.ref C)
  have isT : (⟨h, g, d, t, os⟩ : Shared).TypeIs (.ref C) "type" := ⟨_, hC, rfl⟩
  refine codeAny_of_tree ?_
  show wpAny _ _ (callAny (.ref C) _) _ _ _
  repeat (any_goals (first
    | assumption
    | with_reducible refine wpAny_loadPart_at hC ?_
    | wp_step))
  refine ⟨rfl, ?_⟩
  refine codeAny_call_builtin_at (Code.quiet_builtin _ (by decide +kernel)) entry_typeCall (kw_check_call hC (kw_type_call Fb hT hC hi hb ?_))
  refine codeAny_mono hq fun r s' z => ?_
  rcases r with e | (v | _ | _ | _) <;> exact z
end
end Mi
/-! Mi14: the rule for an exception's making, over the abstract heap. -/
namespace Mi
open PySem PySem.Spec PyProof.Rows L2 PySem.W
section
variable {X : Cx} {pins : List (Addr × Obj)} {σ : L2.St} {H : Hp}
/-- an exception and its dict are tracked -/
theorem inv_exc {hp h3 : Heap} {g : Array GenState} {d : Drawn} {t t3 : Nat} {os : OsState} {C e dx t1 : Addr} {fvs : List (Str × V)} {m : Str → Option Value} (I : Inv X pins σ H ⟨hp, g, d, t, os⟩)
    (k : ∀ b o, hp.get? b = some o → h3.get? b = some o) (he : h3.get? e = some (excObj C t1 (some dx) .none)) (le : hp.objs.size ≤ e) (ld : hp.objs.size ≤ dx) (hne : dx ≠ e) (hn : h3.Ns1 dx m) (hr : ∀ f, RelO (fvs.lookup f) (m f)) :
    Inv X pins σ (upd (upd H dx (.xd fvs)) e (.frz (excObj C t1 (some dx) .none) (XcO C dx e))) ⟨h3, g, d, t3, os⟩ := by
  have ne : H e = none := I.hok.fresh le
  have nd : H dx = none := I.hok.fresh ld
  have se : ∀ {b : Addr} {o : Obj}, hp.get? b = some o → b ≠ e := fun {b o} z y => by
    have := Heap.lt_size z
    rw [y] at this
    exact absurd (Nat.lt_of_lt_of_le this le) (Nat.lt_irrefl _)
  have sd : ∀ {b : Addr} {o : Obj}, hp.get? b = some o → b ≠ dx := fun {b o} z y => by
    have := Heap.lt_size z
    rw [y] at this
    exact absurd (Nat.lt_of_lt_of_le this ld) (Nat.lt_irrefl _)
  have old : ∀ {b : Addr} {u : HO}, H b = some u → upd (upd H dx (.xd fvs)) e (.frz (excObj C t1 (some dx) .none) (XcO C dx e)) b = some u := fun {b u} z => by
    rw [upd_ne (ne_of_none z ne), upd_ne (ne_of_none z nd)]; exact z
  have U : Un X.fs [] H (upd (upd H dx (.xd fvs)) e (.frz (excObj C t1 (some dx) .none) (XcO C dx e))) hp h3 :=
    ⟨fun b o z _ _ _ => k b o z, fun b o z _ _ _ => ⟨o.slots, k b o z⟩, fun b o z n _ => (by rw [upd_ne (se z), upd_ne (sd z)]; exact n), fun b o z _ => ⟨o, k b o z⟩, fun b xs z => old z, fun b o u z => old z, fun b ps z => ⟨#[], (by rw [old z]; simp)⟩⟩
  refine I.un (t' := t3) U fun b o z => ?_
  by_cases hb : b = e
  · subst hb
    rw [upd_same] at z
    cases z
    refine ⟨he, ⟨_, _, he, rfl, rfl, rfl⟩, ⟨_, he⟩, fun h1 h2 q kk => ?_⟩
    obtain ⟨oe, vs, q1, q2⟩ := q
    exact ⟨oe, vs, kk _ q1, q2⟩
  · rw [upd_ne hb] at z
    by_cases hd : b = dx
    · subst hd
      rw [upd_same] at z
      cases z
      exact ⟨m, hn, hr⟩
    · rw [upd_ne hd] at z
      exact (I.hok b o z).stay (fun c u _ y => k c u y) (fun c y => old y) fun c xs y => old y
end
theorem under_depth {A : Around} {C : Addr} {us : List Value} {kw : List (Str × Value)} : (A.under (.builtin "type.__call__" ⟨.ref C :: us, kw⟩)).depth = A.depth + 1 := make_depth
/-- how an __init__ binds -/
def Xbinds (fd : FuncData) (o : Option Str) : Prop := ∀ (s : Shared) (e : Addr) (u : Value), match o with
  | none => BindsTo s fd ⟨[.ref e], []⟩ (xbind none e u)
  | some f => BindsTo s fd ⟨[.ref e, u], []⟩ (xbind (some f) e u) ∧ BindsTo s fd ⟨[.ref e], [(f, u)]⟩ (xbind (some f) e u)
theorem xc_rel {o : Option Str} {tag : Str} {tk : Tok} {u : Value} {v : V} (r : RelV v u) (h : ∀ f, o = some f → f ≠ "tag") : ∀ f, RelO ((match o with | none => [(("tag" : Str), V.str tag)] | some p => [("tag", .str tag), (p, v)]).lookup f) (xdict o tag tk u f) := fun f => by
  cases o with
  | none =>
    show RelO (List.lookup f [(("tag" : Str), V.str tag)]) (if f = "tag" then some (.str tag tk) else none)
    by_cases e : f = "tag"
    · subst e; exact ⟨tk, rfl⟩
    · rw [if_neg e, List.lookup_cons, show (f == ("tag" : Str)) = false by simpa using e]; trivial
  | some p =>
    have hp := h p rfl
    show RelO (List.lookup f [(("tag" : Str), V.str tag), (p, v)]) (if f = p then some u else if f = "tag" then some (.str tag tk) else none)
    by_cases e : f = "tag"
    · subst e
      rw [if_neg (Ne.symm hp), if_pos rfl]
      exact ⟨tk, rfl⟩
    · rw [List.lookup_cons, show (f == ("tag" : Str)) = false by simpa using e]
      by_cases e2 : f = p
      · subst e2
        rw [if_pos rfl, List.lookup_cons, show (f == f) = true by simp]
        exact r
      · rw [if_neg e2, if_neg e, List.lookup_cons, show (f == p) = false by simpa using e2]; trivial
structure XcAll (K : Frag) (prog : Program) (mg : Str → Option Value) (g : Gv) (gs : Gs) : Prop where
  all : ∀ c tag o, gs.xcl c = some (tag, o) → ∃ b fI fd cc cda p txt a1, XcF K prog mg (g.cls c) b tag o fI fd cc cda p txt a1 ∧ Xbinds fd o
theorem xcR_of {Y : Cx} {g : Gv} {gs : Gs} (hroom : Room 4 Y.A) (hF : XcAll Y.K Y.prog Y.mg g gs) : XcR Y g gs := by
  constructor
  · intro c tag hc pins s σ H Q I hq
    obtain ⟨b, fI, fd, cc, cda, p, txt, a1, T, hb⟩ := hF.all c tag none hc
    obtain ⟨hp, gg, d, t, os⟩ := s
    obtain ⟨nm, N, qn, bs, bm, hdct, sn, sub, ab, col, dd, k0, k1, k2, k3, k5, hC, hT⟩ := excInit_of I.kIn T.q
    obtain ⟨oI, hoI, hcI⟩ := Option.map_eq_some_iff.mp (show (Y.K.lookup fI).map (·.cls) = some (.type "function") from beq_iff_eq.mp T.ift)
    have kp : ∀ b o, hp.get? b = some o → ((hp.push (kdv_tup [])).push (PX.excO (g.cls c) hp.objs.size)).get? b = some o := fun b o z => Heap.get?_push_of_some _ (Heap.get?_push_of_some _ z)
    refine wpAny_call (PX.call_own b.fb hT hC (looks_findIn I.kIn T.init) (fun self => exc_bind (I.kIn _ _ hoI) hcI self) (Nat.zero_le _) ?_)
    refine xinit_run (u := .none) T (by rw [under_depth]; have := hroom.dp; omega) I.kIn (I.mod.glob.keeps I.bk) (let ⟨mb, q1, q2⟩ := I.mod.blt; ⟨mb, q1.keeps I.bk, q2⟩) I.nolimit kp (Heap.get?_none_of_le (Nat.le_succ _)) (by heap_get) (by simp [Heap.size_push]; omega) (hb _ _ .none) ?_
    intro h3 t3 dx t1 tk k3' he ld hne hn
    exact ⟨rfl, ⟨.ref (hp.objs.size + 1), _, inv_exc (fvs := [("tag", .str tag)]) I k3' he (Nat.le_succ _) ld hne hn (xc_rel (o := none) (v := .non) rfl (fun _ z => nomatch z)), rfl, hq _ _ _ (I.hok.fresh (Nat.le_succ _)) (I.hok.fresh ld) hne⟩⟩
  · intro c tag f hc pins s σ H Q v u us kw I r hu hq
    obtain ⟨b, fI, fd, cc, cda, p, txt, a1, T, hb⟩ := hF.all c tag (some f) hc
    obtain ⟨hp, gg, d, t, os⟩ := s
    obtain ⟨nm, N, qn, bs, bm, hdct, sn, sub, ab, col, dd, k0, k1, k2, k3, k5, hC, hT⟩ := excInit_of I.kIn T.q
    obtain ⟨oI, hoI, hcI⟩ := Option.map_eq_some_iff.mp (show (Y.K.lookup fI).map (·.cls) = some (.type "function") from beq_iff_eq.mp T.ift)
    rcases hu with ⟨rfl, rfl⟩ | ⟨rfl, rfl⟩
    · have kp : ∀ b o, hp.get? b = some o → ((hp.push (kdv_tup [u])).push (PX.excO (g.cls c) hp.objs.size)).get? b = some o := fun b o z => Heap.get?_push_of_some _ (Heap.get?_push_of_some _ z)
      refine wpAny_call (PX.call_own b.fb hT hC (looks_findIn I.kIn T.init) (fun self => exc_bind (I.kIn _ _ hoI) hcI self) (by show 1 ≤ sizeLine; decide) ?_)
      refine xinit_run (u := u) T (by rw [under_depth]; have := hroom.dp; omega) I.kIn (I.mod.glob.keeps I.bk) (let ⟨mb, q1, q2⟩ := I.mod.blt; ⟨mb, q1.keeps I.bk, q2⟩) I.nolimit kp (Heap.get?_none_of_le (Nat.le_succ _)) (by heap_get) (by simp [Heap.size_push]; omega) (hb _ _ u).1 ?_
      intro h3 t3 dx t1 tk k3' he ld hne hn
      exact ⟨rfl, ⟨.ref (hp.objs.size + 1), _, inv_exc (fvs := [("tag", .str tag), (f, v)]) I k3' he (Nat.le_succ _) ld hne hn (xc_rel (o := some f) r (fun p z => by cases z; exact (T.lf f rfl).2.2.1)), rfl, hq _ _ _ (I.hok.fresh (Nat.le_succ _)) (I.hok.fresh ld) hne⟩⟩
    · have kp : ∀ b o, hp.get? b = some o → ((hp.push (kdv_tup [])).push (PX.excO (g.cls c) hp.objs.size)).get? b = some o := fun b o z => Heap.get?_push_of_some _ (Heap.get?_push_of_some _ z)
      refine wpAny_call (kw_call b.fb hT hC (looks_findIn I.kIn T.init) (fun self => exc_bind (I.kIn _ _ hoI) hcI self) ?_)
      refine xinit_run (u := u) T (by rw [under_depth]; have := hroom.dp; omega) I.kIn (I.mod.glob.keeps I.bk) (let ⟨mb, q1, q2⟩ := I.mod.blt; ⟨mb, q1.keeps I.bk, q2⟩) I.nolimit kp (Heap.get?_none_of_le (Nat.le_succ _)) (by heap_get) (by simp [Heap.size_push]; omega) (hb _ _ u).2 ?_
      intro h3 t3 dx t1 tk k3' he ld hne hn
      exact ⟨rfl, ⟨.ref (hp.objs.size + 1), _, inv_exc (fvs := [("tag", .str tag), (f, v)]) I k3' he (Nat.le_succ _) ld hne hn (xc_rel (o := some f) r (fun p z => by cases z; exact (T.lf f rfl).2.2.1)), rfl, hq _ _ _ (I.hok.fresh (Nat.le_succ _)) (I.hok.fresh ld) hne⟩⟩
end Mi
/-! Mi15: looks at the written part, by evaluation. -/
namespace Mi
open PySem PySem.Spec PyProof.Rows L2 PySem.W
def codeFile (K : Frag) (file : Str) : Value → Bool
  | .ref c => match K.lookup c with
    | some ⟨_, _, .fields vs, _⟩ => match (vs[2]? : Option Value) with
      | some (Value.str f _) => decide (f = file)
      | _ => false
    | _ => false
  | _ => false
theorem codeFile_ok {K : Frag} {file : Str} {v : Value} (h : codeFile K file v = true) : ∃ cda, v = .ref cda ∧ ∃ ccl cdd vs ccs tf, K.lookup cda = some ⟨ccl, cdd, .fields vs, ccs⟩ ∧ vs[2]? = some (.str file tf) := by
  unfold codeFile at h
  split at h
  · rename_i c
    split at h
    · rename_i q
      split at h
      · rename_i q2
        have := of_decide_eq_true h
        subst this
        exact ⟨c, rfl, _, _, _, _, _, q, q2⟩
      · cases h
    · cases h
  · cases h
def closOk (K : Frag) (C : Addr) : List (Str × Addr) → Bool
  | [(n, cc)] => decide (n = "__class__") && match K.lookup cc with
    | some ⟨_, _, .cell (some (.ref D)), _⟩ => decide (D = C)
    | _ => false
  | _ => false
theorem closOk_ok {K : Frag} {C : Addr} {l : List (Str × Addr)} (h : closOk K C l = true) : ∃ cc, l = [(("__class__" : Str), cc)] ∧ ∃ cl cld csl, K.lookup cc = some ⟨cl, cld, .cell (some (.ref C)), csl⟩ := by
  unfold closOk at h
  split at h
  · rename_i n cc
    rw [Bool.and_eq_true] at h
    obtain ⟨h1, h2⟩ := h
    have := of_decide_eq_true h1
    subst this
    split at h2
    · rename_i q
      have := of_decide_eq_true h2
      subst this
      exact ⟨cc, rfl, _, _, _, q⟩
    · cases h2
  · cases h
def s1Ok : Stmt → Bool
  | .Expr (.Call (.Attribute (.Call (.Name n1 _) [] [] _) n2 p2) [.Constant (.str _) _ _] [] p4) _ => decide (n1 = "super") && (decide (n2 = "__init__") && (p2.endLine == p4.line))
  | _ => false
def s2Ok (tag : Str) : Stmt → Bool
  | .Assign [.Attribute (.Name n1 _) n2 _] (.Constant (.str t) _ _) _ => decide (n1 = "self") && (decide (n2 = "tag") && decide (t = tag))
  | _ => false
def s3Ok (f : Str) : Stmt → Bool
  | .Assign [.Attribute (.Name n1 _) n2 _] (.Name n3 _) _ => decide (n1 = "self") && (decide (n2 = f) && decide (n3 = f))
  | _ => false
def bodyOk (tag : Str) (o : Option Str) : FuncBody → Bool
  | .stmts [a, b] => (match o with | none => true | some _ => false) && (s1Ok a && s2Ok tag b)
  | .stmts [a, b, c] => match o with
    | none => false
    | some f => s1Ok a && (s2Ok tag b && s3Ok f c)
  | _ => false
theorem s1_ok {s : Stmt} (h : s1Ok s = true) : ∃ p0 p1 p2 p3 p4 p5 j txt, s = .Expr (.Call (.Attribute (.Call (.Name "super" p0) [] [] p1) "__init__" p2) [.Constant (.str txt) j p3] [] p4) p5 ∧ (p2.endLine == p4.line) = true := by
  unfold s1Ok at h
  split at h
  · rw [Bool.and_eq_true, Bool.and_eq_true] at h
    obtain ⟨h1, h2, h3⟩ := h
    have e1 := of_decide_eq_true h1
    have e2 := of_decide_eq_true h2
    subst e1 e2
    exact ⟨_, _, _, _, _, _, _, _, rfl, h3⟩
  · cases h
theorem s2_ok {s : Stmt} {tag : Str} (h : s2Ok tag s = true) : ∃ q1 q2 q3 q4 j, s = .Assign [.Attribute (.Name "self" q1) "tag" q2] (.Constant (.str tag) j q3) q4 := by
  unfold s2Ok at h
  split at h
  · rw [Bool.and_eq_true, Bool.and_eq_true] at h
    obtain ⟨h1, h2, h3⟩ := h
    have e1 := of_decide_eq_true h1
    have e2 := of_decide_eq_true h2
    have e3 := of_decide_eq_true h3
    subst e1 e2 e3
    exact ⟨_, _, _, _, _, rfl⟩
  · cases h
theorem s3_ok {s : Stmt} {f : Str} (h : s3Ok f s = true) : ∃ q1 q2 q3 q4, s = .Assign [.Attribute (.Name "self" q1) f q2] (.Name f q3) q4 := by
  unfold s3Ok at h
  split at h
  · rw [Bool.and_eq_true, Bool.and_eq_true] at h
    obtain ⟨h1, h2, h3⟩ := h
    have e1 := of_decide_eq_true h1
    have e2 := of_decide_eq_true h2
    have e3 := of_decide_eq_true h3
    subst e1 e2 e3
    exact ⟨_, _, _, _, rfl⟩
  · cases h
def pos0 : Pos := ⟨0, 0, 0, 0⟩
theorem bodyOk_ok {b : FuncBody} {tag : Str} {o : Option Str} (h : bodyOk tag o b = true) : ∃ p txt, b = .stmts (xbody p txt tag o) ∧ (p.p2.endLine == p.p4.line) = true := by
  unfold bodyOk at h
  split at h
  · rename_i s1 s2
    rw [Bool.and_eq_true, Bool.and_eq_true] at h
    obtain ⟨h0, h1, h2⟩ := h
    obtain ⟨p0, p1, p2, p3, p4, p5, j1, txt, rfl, e⟩ := s1_ok h1
    obtain ⟨q1, q2, q3, q4, j2, rfl⟩ := s2_ok h2
    cases o with
    | none => exact ⟨⟨p0, p1, p2, p3, p4, p5, q1, q2, q3, q4, pos0, pos0, pos0, pos0, j1, j2⟩, txt, rfl, e⟩
    | some f => cases h0
  · rename_i s1 s2 s3
    cases o with
    | none => cases h
    | some f =>
      dsimp only at h
      rw [Bool.and_eq_true, Bool.and_eq_true] at h
      obtain ⟨h1, h2, h3⟩ := h
      obtain ⟨p0, p1, p2, p3, p4, p5, j1, txt, rfl, e⟩ := s1_ok h1
      obtain ⟨q1, q2, q3, q4, j2, rfl⟩ := s2_ok h2
      obtain ⟨r1, r2, r3, r4, rfl⟩ := s3_ok h3
      exact ⟨⟨p0, p1, p2, p3, p4, p5, q1, q2, q3, q4, r1, r2, r3, r4, j1, j2⟩, txt, rfl, e⟩
  · cases h
/-- the attributes' names of the text -/
def fnames : List Str := ["given", "state", "most", "index", "place", "name", "limit", "word", "line"]
def parOk (o : Option Str) : Arguments → Bool
  | ⟨[], [⟨n1, _, _⟩], none, [], [], none, []⟩ => (match o with | none => true | some _ => false) && decide (n1 = "self")
  | ⟨[], [⟨n1, _, _⟩, ⟨n2, _, _⟩], none, [], [], none, []⟩ => match o with
    | none => false
    | some f => decide (n1 = "self") && (decide (n2 = f) && fnames.any fun y => decide (y = f))
  | _ => false
theorem parOk_ok {fd : FuncData} {o : Option Str} (h : parOk o fd.params = true) (h1 : fd.defaults = .none) (h2 : fd.kwdefaults = .none) : (∃ a1, (fd.params.posonlyargs ++ fd.params.args).head? = some a1 ∧ a1.arg = "self") ∧ Xbinds fd o := by
  obtain ⟨nm, qn, params, body, scope, gl, cl, df, kd, doc, pm, an, code, ct, bl⟩ := fd
  dsimp only at h h1 h2
  subst h1 h2
  unfold parOk at h
  split at h
  · rename_i n1 an1 p1
    rw [Bool.and_eq_true] at h
    obtain ⟨h0, h1⟩ := h
    have e := of_decide_eq_true h1
    subst e
    cases o with
    | none => exact ⟨⟨_, rfl, rfl⟩, fun s e u => .of_eq rfl⟩
    | some f => cases h0
  · rename_i n1 an1 p1 n2 an2 p2
    cases o with
    | none => cases h
    | some f =>
      dsimp only at h
      rw [Bool.and_eq_true, Bool.and_eq_true] at h
      obtain ⟨h1, h2, h3⟩ := h
      have e1 := of_decide_eq_true h1
      have e2 := of_decide_eq_true h2
      subst e1 e2
      refine ⟨⟨_, rfl, rfl⟩, fun s e u => ?_⟩
      rw [List.any_eq_true] at h3
      obtain ⟨y, hy, ey⟩ := h3
      have ey := of_decide_eq_true ey
      subst ey
      unfold fnames at hy
      simp only [List.mem_cons, List.not_mem_nil, or_false] at hy
      rcases hy with rfl | rfl | rfl | rfl | rfl | rfl | rfl | rfl | rfl <;> exact ⟨.of_eq rfl, .of_eq rfl⟩
  · cases h
theorem b2 {a b : Bool} (h : (a && b) = true) : a = true ∧ b = true := by rwa [Bool.and_eq_true] at h
def scOk (o : Option Str) (sc : Scope) : Bool :=
  decide (sc.kind = .function) && (!sc.isCoroutine && (!sc.isGenerator && (sc.names.all (fun y => !decide (y.2 = .cell)) && (decide (sc.names.lookup ("super" : Str) = some .globalImplicit) &&
    (decide (sc.names.lookup ("__class__" : Str) = some .free) && (decide (sc.names.lookup ("self" : Str) = some .local) && (match o with
      | none => true
      | some f => decide (sc.names.lookup f = some .local) && (!(f == ("__debug__" : Str)) && (!decide (f = "tag") && !decide (f = "self")))))))))) 
def xcFd (K : Frag) (file : Str) (C : Addr) (b : Xb) (tag : Str) (o : Option Str) (fI : Addr) (fd : FuncData) : Bool :=
  isFn K (.ref fI) && (excInitIn K C b.bm b.nw && (codeIn K fd.code fd.qualname && (codeFile K file fd.code && (closOk K C fd.closure && (decide (fd.globals = mainGlobals) && (decide (fd.builtins = builtinsNs) && (parOk o fd.params &&
    (decide (fd.defaults = .none) && (decide (fd.kwdefaults = .none) && (bodyOk tag o fd.body && scOk o fd.scope))))))))))
def xcKk (K : Frag) (C : Addr) (b : Xb) (o : Option Str) : Bool :=
  decide (mroIn K C (.ref C) = some true) && (decide (nsIn K cStatics "thirdparty.any" = some none) && (decide (ks_superIn K C C "__init__" = some (some (.builtin b.it))) && (decide (subIn K (.ref C) (.type b.B) = some true) &&
    (decide (findIn K (.ref C) "__setattr__" = some (some (.builtin "object.__setattr__"))) && (excOver K C b.bm && (decide (takerIn K C "tag" = some none) && (hasDictIn K C && (match o with | none => true | some f => decide (takerIn K C f = some none)))))))))
def xcOk (K : Frag) (file : Str) (C : Addr) (b : Xb) (tag : Str) (o : Option Str) : Bool := match findIn K (.ref C) "__init__" with
  | some (some (.ref fI)) => match K.lookup fI with
    | some ⟨_, _, .func fd, _⟩ => xcFd K file C b tag o fI fd && xcKk K C b o
    | _ => false
  | _ => false
theorem xcOk_ok {K : Frag} {prog : Program} {mg : Str → Option Value} {C : Addr} {b : Xb} {tag : Str} {o : Option Str} (h : xcOk K prog.main.file C b tag o = true) (hs : mg "super" = none) (ht : (prog.main.scope.names.lookup ("super" : Str)).isSome = false) :
    ∃ fI fd cc cda p txt a1, XcF K prog mg C b tag o fI fd cc cda p txt a1 ∧ Xbinds fd o := by
  unfold xcOk at h
  split at h
  · rename_i fI hi
    split at h
    · rename_i fd _ hl
      obtain ⟨h, hk⟩ := b2 h
      obtain ⟨a1, h⟩ := b2 h
      obtain ⟨a2, h⟩ := b2 h
      obtain ⟨a3, h⟩ := b2 h
      obtain ⟨a4, h⟩ := b2 h
      obtain ⟨a5, h⟩ := b2 h
      obtain ⟨a6, h⟩ := b2 h
      obtain ⟨a7, h⟩ := b2 h
      obtain ⟨a8, h⟩ := b2 h
      obtain ⟨a9, h⟩ := b2 h
      obtain ⟨a10, h⟩ := b2 h
      obtain ⟨a11, a12⟩ := b2 h
      obtain ⟨cda, e4, q4⟩ := codeFile_ok a4
      obtain ⟨cc, e5, q5⟩ := closOk_ok a5
      obtain ⟨⟨ar, e8, q8⟩, xb⟩ := parOk_ok a8 (of_decide_eq_true a9) (of_decide_eq_true a10)
      obtain ⟨p, txt, e11, q11⟩ := bodyOk_ok a11
      obtain ⟨s1, h⟩ := b2 a12
      obtain ⟨s2, h⟩ := b2 h
      obtain ⟨s3, h⟩ := b2 h
      obtain ⟨s4, h⟩ := b2 h
      obtain ⟨s5, h⟩ := b2 h
      obtain ⟨s6, h⟩ := b2 h
      obtain ⟨s7, s8⟩ := b2 h
      obtain ⟨k1, h⟩ := b2 hk
      obtain ⟨k2, h⟩ := b2 h
      obtain ⟨k3, h⟩ := b2 h
      obtain ⟨k4, h⟩ := b2 h
      obtain ⟨k5, h⟩ := b2 h
      obtain ⟨k6, h⟩ := b2 h
      obtain ⟨k7, h⟩ := b2 h
      obtain ⟨k8, k9⟩ := b2 h
      refine ⟨fI, fd, cc, cda, p, txt, ar, ⟨hi, ⟨_, _, _, hl⟩, a1, a2, a3, e4, q4, e5, q5, of_decide_eq_true a6, of_decide_eq_true a7, e8, q8, e11, of_decide_eq_true s1, by simpa using s2, by simpa using s3, fun x hx => ?_, of_decide_eq_true s5, of_decide_eq_true s6, of_decide_eq_true s7, fun f ef => ?_,
        of_decide_eq_true k1, hs, ht, of_decide_eq_true k2, of_decide_eq_true k3, of_decide_eq_true k4, of_decide_eq_true k5, k6, of_decide_eq_true k7, fun f ef => ?_, k8, q11⟩, xb⟩
      · have := List.all_eq_true.mp s4 x hx
        simpa using this
      · subst ef
        obtain ⟨u1, u2⟩ := b2 s8
        obtain ⟨u2, u3⟩ := b2 u2
        obtain ⟨u3, u4⟩ := b2 u3
        exact ⟨of_decide_eq_true u1, by simpa using u2, by simpa using u3, by simpa using u4⟩
      · subst ef
        exact of_decide_eq_true k9
    · cases h
  · cases h
/-- the class of an exception, for isinstance and for its attributes -/
def exOk (K : Frag) (C : Addr) (fs : List Str) : Bool :=
  decide (findIn K (.ref C) "__getattribute__" = some (some (.builtin "BaseException.__getattribute__"))) && (decide (findIn K (.ref C) "__getattr__" = some none) && (decide (subIn K (.ref C) (.type "BaseException") = some true) && (hasDictIn K C &&
    (decide (findIn K (.ref C) "__class__" = some (some (.builtin "object.__class__"))) && (decide (specialIn K (.builtin "object.__class__") "__get__" = some (some (.builtin "getset_descriptor.__get__"))) &&
    (decide (takesIn K (.builtin "object.__class__") = some true) && (decide (mroIn K C (.type "object") = some true) && (fs.all (fun f => decide (findIn K (.ref C) f = some none)) && keepIn K (.ref C)))))))))
theorem exOk_ok {K : Frag} {C : Addr} {fs : List Str} (h : exOk K C fs = true) : ExcC K C ∧ XfC K C ∧ (∀ f ∈ fs, findIn K (.ref C) f = some none) ∧ keepIn K (.ref C) = true := by
  obtain ⟨h1, h⟩ := b2 h
  obtain ⟨h2, h⟩ := b2 h
  obtain ⟨h3, h⟩ := b2 h
  obtain ⟨h4, h⟩ := b2 h
  obtain ⟨h5, h⟩ := b2 h
  obtain ⟨h6, h⟩ := b2 h
  obtain ⟨h7, h⟩ := b2 h
  obtain ⟨h8, h⟩ := b2 h
  obtain ⟨h9, h10⟩ := b2 h
  exact ⟨⟨of_decide_eq_true h1, of_decide_eq_true h2, of_decide_eq_true h3, h4, of_decide_eq_true h5, of_decide_eq_true h6, of_decide_eq_true h7, of_decide_eq_true h8⟩, ⟨of_decide_eq_true h1, of_decide_eq_true h2, of_decide_eq_true h3, h4⟩,
    fun f hf => of_decide_eq_true (List.all_eq_true.mp h9 f hf), h10⟩
end Mi
/-! Mi16: what the tables must say, as looks. -/
namespace Mi
open PySem PySem.Spec PyProof.Rows L2 PySem.W
def T.pick {α : Type} (j : Nat) : T α → T α
  | .pull _ k => k j
  | t => t
def T.width {α : Type} : T α → Nat
  | .pull n _ => n
  | _ => 1
theorem T.pick_ok {α : Type} {p : α → Bool} {n : Nat} {t : T α} (hw : t.width ≤ n) (hn : 0 < n) (h : ∀ j, j < n → (t.pick j).chk p = true) : t.Sat (fun a => p a = true) (fun _ _ => False) := by
  cases t with
  | ret a => exact T.chk_ok (h 0 hn)
  | exc x A => exact T.chk_ok (h 0 hn)
  | bad => exact T.chk_ok (h 0 hn)
  | pull m k => exact fun i hi => T.chk_ok (h i (Nat.lt_of_lt_of_le hi hw))
def glOf2 (glt : List (Str × Gn)) (tyt : List (Str × Bt)) (x : Str) : Option Gn := match glt.lookup x with
  | some q => some q
  | none => (tyt.lookup x).map .ty
def glChk1 (K : Frag) (cls fns : Nat → Addr) (x : Str) : Gn → Bool
  | .fn f => decide (nsIn K mainGlobals x = some (some (.ref (fns f))))
  | .cl k => decide (nsIn K mainGlobals x = some (some (.ref (cls k)))) && keepIn K (.ref (cls k))
  | .bi b => decide (x = biS b) && decide (nsIn K mainGlobals x = some none)
  | .isi => decide (x = "isinstance") && decide (nsIn K mainGlobals x = some none)
  | .zip => decide (x = "zip") && decide (nsIn K mainGlobals x = some none)
  | .ty n => decide (nsIn K mainGlobals x = some none) && (decide (bootBuiltins x = some (.type n.nm)) && !decide (x = "__name__"))
def glChk (K : Frag) (cls fns : Nat → Addr) (glt : List (Str × Gn)) (tyt : List (Str × Bt)) : Bool :=
  glt.all (fun q => !(q.1 == ("__debug__" : Str)) && glChk1 K cls fns q.1 q.2) && tyt.all (fun q => !(q.1 == ("__debug__" : Str)) && glChk1 K cls fns q.1 (.ty q.2))
theorem glChk_at {K : Frag} {cls fns : Nat → Addr} {glt : List (Str × Gn)} {tyt : List (Str × Bt)} (h : glChk K cls fns glt tyt = true) {x : Str} {q : Gn} (e : glOf2 glt tyt x = some q) : (x == ("__debug__" : Str)) = false ∧ glChk1 K cls fns x q = true := by
  obtain ⟨h1, h2⟩ := b2 h
  unfold glOf2 at e
  split at e
  · rename_i q' hq
    cases e
    obtain ⟨a, b⟩ := b2 (List.all_eq_true.mp h1 _ (PySem.mem_of_lookup hq))
    exact ⟨by simpa using a, b⟩
  · rw [Option.map_eq_some_iff] at e
    obtain ⟨n, hn, rfl⟩ := e
    obtain ⟨a, b⟩ := b2 (List.all_eq_true.mp h2 _ (PySem.mem_of_lookup hn))
    exact ⟨by simpa using a, b⟩
theorem glF_of {K : Frag} {mg : Str → Option Value} {h : Heap} {cls fns : Nat → Addr} {glt : List (Str × Gn)} {tyt : List (Str × Bt)} (X : K.In h) (G : h.Ns mainGlobals mg) (c : glChk K cls fns glt tyt = true) : GlF K mg ⟨K, mg, cls, fns⟩ (glOf2 glt tyt) where
  fn := fun x f e => mg_of X G (of_decide_eq_true (glChk_at c e).2)
  cl := fun x f e => mg_of X G (of_decide_eq_true (b2 (glChk_at c e).2).1)
  kp := fun x f e => (b2 (glChk_at c e).2).2
  bi := fun x f e => ⟨of_decide_eq_true (b2 (glChk_at c e).2).1, mg_none_of X G (of_decide_eq_true (b2 (glChk_at c e).2).2)⟩
  isi := fun x e => ⟨of_decide_eq_true (b2 (glChk_at c e).2).1, mg_none_of X G (of_decide_eq_true (b2 (glChk_at c e).2).2)⟩
  zip := fun x e => ⟨of_decide_eq_true (b2 (glChk_at c e).2).1, mg_none_of X G (of_decide_eq_true (b2 (glChk_at c e).2).2)⟩
  ty := fun x n e => by
    obtain ⟨h1, h2⟩ := b2 (glChk_at c e).2
    obtain ⟨h2, h3⟩ := b2 h2
    exact ⟨mg_none_of X G (of_decide_eq_true h1), of_decide_eq_true h2, by simpa using h3⟩
  dbg := fun x q e => (glChk_at c e).1
/-- built-in types among themselves -/
def subB (a b : Bt) : Option Bool := match a, b with
  | .dict, _ => none | .ve, _ => none | .le, _ => none | .ie, _ => none
  | _, .ve => none | _, .le => none | _, .ie => none
  | a, b => some (decide (a = b) || (decide (a = .bool) && decide (b = .int)))
theorem subB_ok (K : Frag) : ∀ (a b : Bt) (r : Bool), subB a b = some r → kitOne K (.type a.nm) (.type b.nm) = some r := by
  have key : ∀ a b : Bt, (match subB a b with | some r => decide (kitB a.nm b.nm = some r) | none => true) = true := by
    intro a b
    cases a <;> cases b <;> first | rfl | decide +kernel
  intro a b r h
  have := key a b
  rw [h] at this
  exact kit_ty (of_decide_eq_true this)
end Mi
namespace Mi
open PySem PySem.Spec PyProof.Rows L2
def top (i : Nat) : Stmt := PySem.Challenge.pw_earlytold_k65_errors_by_themselves.main.body.getD i (.Pass ⟨0, 0, 0, 0⟩)
abbrev sBag : Stmt := top 36
abbrev sPull : Stmt := top 33
section
variable {P : Program} {w : World} {K : PySem.W.Frag} {mg : Str → Option Value} {base : Heap} {g : Gv} {gs : Gs} {defs : Nat → Option Df}
theorem scBag : FnScope ["_law_script", "_law_salt", "_law_cell"] ["_law_script"] (defScope sBag) := ⟨rfl, rfl, rfl, by decide +kernel, rfl, by decide +kernel, by decide +kernel⟩
theorem ok_bag {fd : FuncData} {m lv : Nat} (hK : g.K = K) (F : L2.Fun K "_law_bag" "_law_bag" sBag (g.fns 0) fd) (hb : Binds K fd ["_law_script"] []) (mI : mg "int" = none) (mL : mg "list" = none) : FnL P w K mg base g (evF gs defs (m + 1)) (lv + 1) 0 := by
  subst hK
  refine ⟨fd, ["_law_script"], ?_, F.kp, hb, fun ds A P E h => by rw [(bag_inv h).1]; rfl⟩
  refine F.ok scBag (fun vs H Q E h => h.1) (fun cdv A outer s H vs Q E hr h => ?_)
  obtain ⟨hv, rho, A0, ds, hr0, rs, z⟩ := h
  obtain ⟨rfl, z⟩ := bag_inv z
  obtain ⟨v, rfl, rv⟩ := rs.one
  cases rv with
  | @scr a hs =>
    obtain ⟨ns, hs, hl⟩ := hs.sq
    refine ⟨_, pss_cons (ps_set (i := 1) scBag.nd rfl (Or.inl rfl) pe_int)
      (pss_cons (ps_for PassesOwn.never rfl (pi_list (pe_slice sl_list (pv 0) po_none (po_some pe_int))) (pg_name (i := 2) scBag.nd rfl (Or.inl rfl))
        (pss_one (ps_set (i := 1) scBag.nd rfl (Or.inl rfl) (pe_op op_mod (pe_callTy call_int1 rfl mI rfl (pa_cons (pe_op op_add (pe_op op_add (pe_op op_mul (pv 1) pe_int) (pe_op op_mod (pe_callTy call_int1 rfl mI rfl (pa_cons (pv 2) pa_nil)) pe_int)) pe_int) pa_nil)) pe_int))))
      (pss_one (ps_ret (pe_lst (pa_cons (pe_callTy call_list_of rfl mL rfl (pa_cons (pe_slice sl_list (pv 0) po_none (po_some pe_int)) pa_nil)) (pa_cons pe_int (pa_cons pe_int (pa_cons (pv 1) pa_nil)))))))), ?_⟩
    obtain ⟨ms, em, hm⟩ := cut_ints ns none (some 63)
    refine ⟨_, rfl, _, rfl, ?_⟩
    refine ⟨a, ns.map V.int, rfl, hs, fun p hp => ⟨p, rfl, ⟨_, SqL.of upd_same⟩, ?_⟩⟩
    rw [em]
    have S1 : Same H (upd H p (.lst (ms.map V.int))) := fun b o e => by rw [upd_ne (ne_of_none e hp)]; exact e
    refine for_list (K := g.K) (a := p) (xs := ms.map V.int) (fun i σ H' => ∃ (salt : Int) (v : Option V), σ = [some (.ref a), some (.int salt), v] ∧ 0 ≤ salt ∧ salt < 2147483587 ∧ H' = upd H p (.lst (ms.map V.int)))
      ⟨3849, none, rfl, by decide, by decide, rfl⟩ (fun i σ H' _ ⟨_, _, _, _, _, e⟩ => by rw [e]; exact SqL.of upd_same) ?_ ?_
    · rintro i x σ H' hx ⟨salt, v, rfl, h0, h1, rfl⟩
      obtain ⟨n, rfl⟩ : ∃ n, x = V.int n := by
        rw [List.getElem?_map] at hx
        cases e : ms[i]? with
        | none => rw [e] at hx; cases hx
        | some n => rw [e] at hx; exact ⟨n, (Option.some.inj hx).symm⟩
      refine ⟨_, rfl, _, _, rfl, rfl, .inl ⟨by omega, by omega⟩, _, rfl, .inl ⟨_, rfl, _, _, rfl, rfl, by show (0 : Int) < _; decide, _, _, rfl, rfl, _, _, rfl, rfl, .inl ⟨_, rfl, _, _, rfl, rfl, by show (0 : Int) < _; decide, ?_⟩⟩⟩
      exact ⟨_, some (.int n), rfl, (emod_bounds _ _ (by decide)).1, (emod_bounds _ _ (by decide)).2, rfl⟩
    · rintro σ H' ⟨salt, v, rfl, h0, h1, rfl⟩
      refine ⟨_, rfl, _, rfl, ?_⟩
      refine ⟨a, ns.map V.int, rfl, S1.seq hs, fun p2 hp2 => ?_⟩
      rw [em] at *
      refine ⟨p2, _, rfl, .inl (SqL.of upd_same), fun l hl2 => ?_⟩
      refine ⟨_, rfl, by show 4 ≤ sizeLine; decide, fun p3 hp3 => ?_⟩
      exact bag_made hr0 (by omega) h0 h1 z hp hp2 hl2 hp3
theorem scPull : FnScope ["_law_bag_here", "_law_amount", "_law_cell", "_law_got", "_law_seed"] ["_law_bag_here", "_law_amount"] (defScope sPull) := ⟨rfl, rfl, rfl, by decide +kernel, rfl, by decide +kernel, by decide +kernel⟩
theorem ok_pull {fd : FuncData} {m lv : Nat} (hK : g.K = K) (F : L2.Fun K "_law_pull" "_law_pull" sPull (g.fns 1) fd) (hb : Binds K fd ["_law_bag_here", "_law_amount"] []) (mI : mg "int" = none) (mL : mg "len" = none) : FnL P w K mg base g (evF gs defs (m + 1)) (lv + 1) 1 := by
  subst hK
  refine ⟨fd, ["_law_bag_here", "_law_amount"], ?_, F.kp, hb, fun ds A P E h => by obtain ⟨b, k, rfl, _⟩ := pull_inv h; rfl⟩
  refine F.ok scPull (fun vs H Q E h => h.1) (fun cdv A outer s H vs Q E hr h => ?_)
  obtain ⟨hv, rho, A0, ds, hr0, rs, z⟩ := h
  obtain ⟨b, k, rfl, hb, hk0, hk1, z⟩ := pull_inv z
  cases rs with
  | cons rb rs =>
    obtain ⟨v, rfl, rk⟩ := rs.one
    cases rk
    cases rb with
    | @nm _ p hp =>
      obtain ⟨q, ns, i, r, sa, hH, hq, hn, hl, hi, hs0, hs1⟩ := hr0.at_ b .bag p hb hp
      refine ⟨_, pss_mid (ps_if (PW.pt (pw_and (pt_cmpR op_eq (pe_ix ix_seq (pv 0) pe_int (fun _ _ => rfl)) pe_int (nomark _)) (pw_and1 (pt_cmpR op_lt (pe_ix ix_seq (pv 0) pe_int (fun _ _ => rfl)) (pe_callB call_len_seq rfl mL rfl (pa_cons (pe_ix ix_seq (pv 0) pe_int (fun _ _ => rfl)) pa_nil)) (nomark _)))))
          (pss_cons (ps_set (i := 2) scPull.nd rfl (Or.inl rfl) (pe_ix ix_seq (pe_ix ix_seq (pv 0) pe_int (fun _ _ => rfl)) (pe_ix ix_seq (pv 0) pe_int (fun _ _ => rfl)) (fun _ _ => rfl)))
          (pss_cons (ps_asg (pe_op op_add (pe_ix ix_seq (pv 0) pe_int (fun _ _ => rfl)) pe_int) (pg_sub (pv 0) pe_int set_list))
          (pss_one (ps_if (pt_cmpR op_ge (pv 2) (pe_op op_pow pe_int pe_int) (nomark _)) (pss_one (ps_asg (pv 2) (pg_sub (pv 0) pe_int set_list)))
            (pss_one (ps_asg (pe_op op_mod (pe_callTy call_int1 rfl mI rfl (pa_cons (pe_op op_add (pe_op op_add (pe_op op_mul (pe_ix ix_seq (pv 0) pe_int (fun _ _ => rfl)) pe_int) (pe_op op_mul (pe_op op_mod (pe_callTy call_int1 rfl mI rfl (pa_cons (pv 2) pa_nil)) pe_int) pe_int)) pe_int) pa_nil)) pe_int) (pg_sub (pv 0) pe_int set_list)))))))
          pss_nil)
        (pss_cons (ps_if (pt_cmpR op_gt (pe_ix ix_seq (pv 0) pe_int (fun _ _ => rfl)) pe_int (nomark _))
          (pss_cons (ps_set (i := 3) scPull.nd rfl (Or.inl rfl) (pe_op op_mod (pe_callTy call_int1 rfl mI rfl (pa_cons (pe_ix ix_seq (pv 0) pe_int (fun _ _ => rfl)) pa_nil)) (pv 1)))
          (pss_cons (ps_asg (pe_op op_fdiv (pe_ix ix_seq (pv 0) pe_int (fun _ _ => rfl)) (pv 1)) (pg_sub (pv 0) pe_int set_list))
          (pss_one (ps_ret (pv 3))))) pss_nil)
        (pss_cons (ps_set (i := 4) scPull.nd rfl (Or.inl rfl) (pe_ix ix_seq (pv 0) pe_int (fun _ _ => rfl)))
        (pss_cons (ps_asg (pe_op op_mod (pe_callTy call_int1 rfl mI rfl (pa_cons (pe_op op_add (pe_op op_add (pe_op op_mul (pv 4) (pv 4)) (pe_op op_mul (pv 4) pe_int)) pe_int) pa_nil)) pe_int) (pg_sub (pv 0) pe_int set_list))
        (pss_one (ps_ret (pe_op op_mod (pe_callTy call_int1 rfl mI rfl (pa_cons (pe_op op_add (pe_op op_fdiv (pe_ix ix_seq (pv 0) pe_int (fun _ _ => rfl)) pe_int) (pe_op op_mul (pe_op op_mod (pe_callTy call_int1 rfl mI rfl (pa_cons (pe_ix ix_seq (pv 0) pe_int (fun _ _ => rfl)) pa_nil)) pe_int) pe_int)) pa_nil)) (pv 1))))))), ?_⟩
      refine ⟨fun σ' H' => ∃ (i r sa : Int) (v2 : Option V), σ' = [some (.ref p), some (.int k), v2, none, none] ∧ H' p = some (.lst [.ref q, .int i, .int r, .int sa]) ∧ (∀ c, c ≠ p → H' c = H c) ∧ 0 ≤ i ∧ 0 ≤ sa ∧ sa < 2147483587, ?_, ?_⟩
      · have stay : ∃ (i r sa : Int) (v2 : Option V), L2.start ["_law_bag_here", "_law_amount", "_law_cell", "_law_got", "_law_seed"] [.ref p, .int k] = [some (.ref p), some (.int k), v2, none, none] ∧ H p = some (.lst [.ref q, .int i, .int r, .int sa]) ∧ (∀ c, c ≠ p → H c = H c) ∧ 0 ≤ i ∧ 0 ≤ sa ∧ sa < 2147483587 :=
          ⟨i, r, sa, none, rfl, hH, fun _ _ => rfl, hi, hs0, hs1⟩
        refine rd_ix (v := .int r) rfl hH rfl ⟨rfl, _, rfl, ?_⟩
        refine ite2 (fun hz => ?_) (fun hz => iteF stay)
        refine rd_ix (v := .int i) rfl hH rfl (rd_ix (v := .ref q) rfl hH rfl ⟨q, _, rfl, .inl (.of hn), _, _, rfl, rfl, _, rfl, ?_⟩)
        refine ite2 (fun hlt => ?_) (fun hlt => stay)
        have hlt := of_decide_eq_true hlt
        rw [List.length_map] at hlt
        obtain ⟨j, ej⟩ : ∃ j : Nat, i = (j : Int) := ⟨i.toNat, by omega⟩
        have hj : j < ns.length := by omega
        have hat : atI (ns.map V.int) i = some (.int ns[j]) := at_of (j := j) ej (by rw [List.getElem?_map, List.getElem?_eq_getElem hj]; rfl)
        refine rd_ix (v := .ref q) rfl hH rfl (rd_ix (v := .int i) rfl hH rfl (.inl ⟨q, _, i, .int ns[j], rfl, rfl, .of hn, hat, ?_⟩))
        refine rd_ix (v := .int i) rfl hH rfl ⟨_, _, rfl, rfl, ⟨_, rfl, p, _, 1, 1, rfl, rfl, hH, rfl, ?_⟩⟩
        refine ⟨_, rfl, _, _, rfl, rfl, ⟨by decide, by decide, by decide⟩, _, _, rfl, rfl, _, rfl, ?_⟩
        refine ite2 (fun _ => ?_) (fun _ => ?_)
        · refine ⟨_, rfl, _, rfl, p, _, 2, 2, rfl, rfl, upd_same, rfl, i + 1, ns[j], sa, some (.int ns[j]), rfl, upd_same, fun c hc => by rw [upd_ne hc, upd_ne hc], by omega, hs0, hs1⟩
        · refine rd_ix (v := .int sa) rfl upd_same rfl ⟨_, _, rfl, rfl, .inl ⟨by omega, by omega⟩, _, rfl, .inl ⟨_, rfl, _, _, rfl, rfl, by show (0 : Int) < _; decide, _, _, rfl, rfl, .inr ⟨by show (-(2 ^ 64) : Int) < _; decide, by show _ < (2 ^ 64 : Int); decide⟩, _, _, rfl, rfl, _, _, rfl, rfl,
            .inl ⟨_, rfl, _, _, rfl, rfl, by show (0 : Int) < _; decide, _, rfl, p, _, 3, 3, rfl, rfl, upd_same, rfl, ?_⟩⟩⟩
          exact ⟨i + 1, r, _, some (.int ns[j]), rfl, upd_same, fun c hc => by rw [upd_ne hc, upd_ne hc], by omega, (emod_bounds _ _ (by decide)).1, (emod_bounds _ _ (by decide)).2⟩
      · rintro σ' H' ⟨i, r, sa, v2, rfl, hH, hx, hi, hs0, hs1⟩
        refine rd_ix (v := .int r) rfl hH rfl ⟨_, _, rfl, rfl, _, rfl, ?_⟩
        refine ite2 (fun _ => ?_) (fun _ => ?_)
        · refine rd_ix (v := .int r) rfl hH rfl (.inl ⟨_, rfl, _, rfl, _, _, rfl, rfl, hk0, ?_⟩)
          refine rd_ix (v := .int r) rfl hH rfl ⟨_, rfl, _, _, rfl, rfl, ⟨hk0, hk1⟩, _, rfl, p, _, 2, 2, rfl, rfl, hH, rfl, ?_⟩
          refine ⟨_, rfl, ?_⟩
          exact pull_done hr0 hb hp hq hn hl upd_same (fun c hc => by rw [upd_ne hc, hx c hc]) hi hs0 hs1 hk0 z
        · refine rd_ix (v := .int sa) rfl hH rfl ?_
          refine ⟨_, rfl, _, rfl, _, _, rfl, rfl, .inl ⟨by omega, by omega⟩, _, rfl, _, _, rfl, rfl, .inl ⟨by omega, by omega⟩, _, _, rfl, rfl, _, _, rfl, rfl, .inl ⟨_, rfl, _, _, rfl, rfl, by show (0 : Int) < _; decide, _, rfl, p, _, 3, 3, rfl, rfl, hH, rfl, ?_⟩⟩
          refine rd_ix (v := .int _) rfl upd_same rfl ⟨_, _, rfl, rfl, ⟨by show (0 : Int) < _; decide, by show _ < (1073741824 : Int); decide⟩, ?_⟩
          refine rd_ix (v := .int _) rfl upd_same rfl (.inl ⟨_, rfl, _, _, rfl, rfl, by show (0 : Int) < _; decide, _, _, rfl, rfl, .inr ⟨by show (-(2 ^ 64) : Int) < _; decide, by show _ < (2 ^ 64 : Int); decide⟩, _, _, rfl, rfl, .inl ⟨_, rfl, _, rfl, _, _, rfl, rfl, hk0, ?_⟩⟩)
          exact pull_done hr0 hb hp hq hn hl upd_same (fun c hc => by rw [upd_ne hc, hx c hc]) hi (emod_bounds _ _ (by decide)).1 (emod_bounds _ _ (by decide)).2 hk0 z
end
end Mi
open PySem L2 Mi
namespace Mi
def xtab : List (Xb × Str × Option Str) := [(Xb.ve, ("" : Str), (none : Option Str)), (Xb.ve, ("" : Str), (none : Option Str)), (Xb.ve, ("InvalidAlphabet" : Str), (none : Option Str)), (Xb.ve, ("InvalidStates" : Str), some ("given" : Str)), (Xb.ve, ("InvalidMove" : Str), some ("state" : Str)), (Xb.ve, ("TooManyValues" : Str), some ("most" : Str)), (Xb.ve, ("TooManyStates" : Str), some ("most" : Str)), (Xb.ve, ("InvalidState" : Str), some ("given" : Str)), (Xb.ve, ("InvalidWord" : Str), some ("given" : Str)), (Xb.ve, ("InvalidText" : Str), (none : Option Str)), (Xb.ve, ("InvalidPattern" : Str), some ("given" : Str)), (Xb.ve, ("InvalidNumber" : Str), some ("given" : Str)), (Xb.ve, ("InvalidLevel" : Str), some ("given" : Str)), (Xb.ve, ("InvalidValue" : Str), some ("given" : Str)), (Xb.ve, ("InvalidTable" : Str), (none : Option Str)), (Xb.ve, ("AlphabetsDiffer" : Str), (none : Option Str)), (Xb.ve, ("InvalidLateness" : Str), some ("given" : Str)), (Xb.ve, ("InvalidWaiting" : Str), some ("given" : Str)), (Xb.ve, ("InvalidOrder" : Str), some ("index" : Str)), (Xb.ve, ("InvalidPlace" : Str), some ("given" : Str)), (Xb.ve, ("Arrived" : Str), some ("place" : Str)), (Xb.ve, ("TooEarly" : Str), some ("place" : Str)), (Xb.ve, ("TooMany" : Str), some ("most" : Str)), (Xb.ve, ("InvalidName" : Str), some ("name" : Str)), (Xb.ve, ("DuplicateName" : Str), some ("name" : Str)), (Xb.ve, ("CapacityExceeded" : Str), some ("limit" : Str)), (Xb.ve, ("InvalidLimit" : Str), some ("given" : Str)), (Xb.ve, ("InvalidCommand" : Str), some ("word" : Str)), (Xb.ve, ("ParseError" : Str), some ("line" : Str)), (Xb.le, ("UnknownName" : Str), some ("name" : Str)), (Xb.ie, ("NothingLeft" : Str), (none : Option Str))]
def xcl65 (c : Nat) : Option (Str × Option Str) := if 2 ≤ c then (xtab[c]?).map (·.2) else none
def sub65 : Tn → Tn → Option Bool
  | .o i, .o j => if 2 ≤ i ∧ i < 31 ∧ j < 31 then some (i == j || (j == 0 && decide (i < 29)) || (j == 1 && i == 29)) else none
  | .o i, .b .ve => if 2 ≤ i ∧ i < 31 then some (decide (i < 29)) else none
  | .o i, .b .le => if 2 ≤ i ∧ i < 31 then some (decide (29 ≤ i)) else none
  | .o i, .b .ie => if 2 ≤ i ∧ i < 31 then some (i == 30) else none
  | .b a, .b b => subB a b
  | _, _ => none
def gs65 : Gs := ⟨100, sub65, xcl65⟩
def glt : List (Str × Gn) := [(("EarlyError" : Str), Gn.cl 0), (("Missing" : Str), Gn.cl 1), (("InvalidAlphabet" : Str), Gn.cl 2), (("InvalidStates" : Str), Gn.cl 3), (("InvalidMove" : Str), Gn.cl 4), (("TooManyValues" : Str), Gn.cl 5), (("TooManyStates" : Str), Gn.cl 6), (("InvalidState" : Str), Gn.cl 7), (("InvalidWord" : Str), Gn.cl 8), (("InvalidText" : Str), Gn.cl 9), (("InvalidPattern" : Str), Gn.cl 10), (("InvalidNumber" : Str), Gn.cl 11), (("InvalidLevel" : Str), Gn.cl 12), (("InvalidValue" : Str), Gn.cl 13), (("InvalidTable" : Str), Gn.cl 14), (("AlphabetsDiffer" : Str), Gn.cl 15), (("InvalidLateness" : Str), Gn.cl 16), (("InvalidWaiting" : Str), Gn.cl 17), (("InvalidOrder" : Str), Gn.cl 18), (("InvalidPlace" : Str), Gn.cl 19), (("Arrived" : Str), Gn.cl 20), (("TooEarly" : Str), Gn.cl 21), (("TooMany" : Str), Gn.cl 22), (("InvalidName" : Str), Gn.cl 23), (("DuplicateName" : Str), Gn.cl 24), (("CapacityExceeded" : Str), Gn.cl 25), (("InvalidLimit" : Str), Gn.cl 26), (("InvalidCommand" : Str), Gn.cl 27), (("ParseError" : Str), Gn.cl 28), (("UnknownName" : Str), Gn.cl 29), (("NothingLeft" : Str), Gn.cl 30), (("_law_bag" : Str), Gn.fn 0), (("_law_pull" : Str), Gn.fn 1), (("_law_of" : Str), Gn.fn 2), (("_law_same" : Str), Gn.fn 3), (("_law_made_errors" : Str), Gn.fn 4), (("_law_kinds_of" : Str), Gn.fn 5), (("law" : Str), Gn.fn 6), (("len" : Str), Gn.bi Bi.len), (("all" : Str), Gn.bi Bi.all), (("int" : Str), Gn.bi Bi.int), (("sum" : Str), Gn.bi Bi.sum), (("isinstance" : Str), Gn.isi), (("zip" : Str), Gn.zip)]
def tyt : List (Str × Bt) := [(("list" : Str), Bt.lst), (("tuple" : Str), Bt.tup), (("bool" : Str), Bt.bool), (("int" : Str), Bt.int), (("str" : Str), Bt.str), (("ValueError" : Str), Bt.ve), (("LookupError" : Str), Bt.le), (("IndexError" : Str), Bt.ie)]
def nn0 : List Str := ["_law_script", "_law_salt", "_law_cell"]
def nn1 : List Str := ["_law_bag_here", "_law_amount", "_law_seed", "_law_cell", "_law_got"]
def nn2 : List Str := ["_law_bag_here", "_law_things"]
def nn3 : List Str := ["_law_found", "_law_due", "_law_one", "_law_other"]
def nn4 : List Str := ["_law_value", "_law_given_z", "_law_most_z", "_law_names", "_law_others", "_law_plain"]
def nn5 : List Str := ["_law_e", "_law_first", "_law_good"]
def nn6 : List Str := ["_law_script", "_law_bag_here", "_law_value", "_law_told", "_law_all_errors", "_law_tags", "_law_kinds", "_law_made", "_law_given_z", "_law_most_z", "_law_names", "_law_others", "_law_plain", "_law_one"]
abbrev gl65 : Str → Option Gn := glOf2 glt tyt
def bd (i : Nat) (N : List Str) : Option (List S) := cSl (cS 60 ⟨N, defScope (top i), gl65⟩) (defBody (top i))
def qs (l : List Nat) : Str := ⟨l.toArray⟩
def bd2 : List S := [(.ret (.ix (.sl 1) (.call 1 [(.sl 0), (.bi .len [(.sl 1)])])))]
def bd3 : List S := [(.iff (.or [(.isi (.sl 1) [(.b Bt.lst)]), (.isi (.sl 1) [(.b Bt.tup)])]) [(.iff (.or [(.cmp .ne (.isi (.sl 0) [(.b Bt.lst)]) (.isi (.sl 1) [(.b Bt.lst)])), (.cmp .ne (.isi (.sl 0) [(.b Bt.tup)]) (.isi (.sl 1) [(.b Bt.tup)]))]) [(.ret (.k (.bl false)))] []),
  (.ret (.and [(.cmp .eq (.bi .len [(.sl 0)]) (.bi .len [(.sl 1)])), (.bi .all [(.lcz 2 3 (.sl 0) (.sl 1) (.call 3 [(.sl 2), (.sl 3)]))])]))] []),
  (.iff (.or [(.cmp .isn (.sl 1) (.k .non)), (.cmp .isn (.sl 0) (.k .non))]) [(.ret (.and [(.cmp .isn (.sl 1) (.k .non)), (.cmp .isn (.sl 0) (.k .non))]))] []),
  (.iff (.or [(.cmp .ne (.isi (.sl 0) [(.b Bt.bool)]) (.isi (.sl 1) [(.b Bt.bool)])), (.cmp .ne (.isi (.sl 0) [(.b Bt.int)]) (.isi (.sl 1) [(.b Bt.int)]))]) [(.ret (.k (.bl false)))] []),
  (.ret (.and [(.cmp .eq (.isi (.sl 0) [(.b Bt.str)]) (.isi (.sl 1) [(.b Bt.str)])), (.cmp .eq (.sl 0) (.sl 1))]))]
def bd4 : List S := [(.set 1 (.lst [(.xc 3 [(.sl 0)]), (.xc 7 [(.sl 0)]), (.xc 8 [(.sl 0)]), (.xc 10 [(.sl 0)]), (.xc 11 [(.sl 0)]), (.xc 12 [(.sl 0)])])),
  (.set 1 (.bin .add (.sl 1) (.lst [(.xc 13 [(.sl 0)]), (.xc 16 [(.sl 0)]), (.xc 17 [(.sl 0)]), (.xc 19 [(.sl 0)]), (.xc 26 [(.sl 0)])]))),
  (.set 2 (.lst [(.xc 5 [(.sl 0)]), (.xc 6 [(.sl 0)]), (.xc 22 [(.sl 0)])])),
  (.set 3 (.lst [(.xc 23 [(.sl 0)]), (.xc 24 [(.sl 0)]), (.xc 29 [(.sl 0)])])),
  (.set 4 (.lst [(.xc 20 [(.sl 0)]), (.xc 21 [(.sl 0)]), (.xc 4 [(.sl 0)]), (.xc 18 [(.sl 0)]), (.xc 25 [(.sl 0)]), (.xc 27 [(.sl 0)]), (.xc 28 [(.sl 0)])])),
  (.set 5 (.lst [(.xc 2 []), (.xc 9 []), (.xc 14 []), (.xc 15 []), (.xc 30 [])])),
  (.ret (.tup [(.sl 1), (.sl 2), (.sl 3), (.sl 4), (.sl 5)]))]
def bd5 : List S := [(.set 1 (.lst [(.isi (.sl 0) [(.o 3)]), (.isi (.sl 0) [(.o 7)]), (.isi (.sl 0) [(.o 8)]), (.isi (.sl 0) [(.o 10)]), (.isi (.sl 0) [(.o 11)])])),
  (.set 1 (.bin .add (.sl 1) (.lst [(.isi (.sl 0) [(.o 12)]), (.isi (.sl 0) [(.o 13)]), (.isi (.sl 0) [(.o 16)]), (.isi (.sl 0) [(.o 17)])]))),
  (.set 1 (.bin .add (.sl 1) (.lst [(.isi (.sl 0) [(.o 19)]), (.isi (.sl 0) [(.o 26)]), (.isi (.sl 0) [(.o 5)]), (.isi (.sl 0) [(.o 6)]), (.isi (.sl 0) [(.o 22)])]))),
  (.set 1 (.bin .add (.sl 1) (.lst [(.isi (.sl 0) [(.o 23)]), (.isi (.sl 0) [(.o 24)]), (.isi (.sl 0) [(.o 29)]), (.isi (.sl 0) [(.o 20)]), (.isi (.sl 0) [(.o 21)])]))),
  (.set 1 (.bin .add (.sl 1) (.lst [(.isi (.sl 0) [(.o 4)]), (.isi (.sl 0) [(.o 18)]), (.isi (.sl 0) [(.o 25)]), (.isi (.sl 0) [(.o 27)]), (.isi (.sl 0) [(.o 28)])]))),
  (.set 1 (.bin .add (.sl 1) (.lst [(.isi (.sl 0) [(.o 2)]), (.isi (.sl 0) [(.o 9)]), (.isi (.sl 0) [(.o 14)]), (.isi (.sl 0) [(.o 15)]), (.isi (.sl 0) [(.o 30)])]))),
  (.ret (.bi .sum [(.lc 2 (.sl 1) (.bi .int [(.sl 2)]))]))]
def bd6 : List S := [(.set 1 (.call 0 [(.sl 0)])),
  (.set 2 (.call 2 [(.sl 1), (.lst [(.k (.int (3))), (.k .non), (.k (.str (qs [120]))), (.tup [(.k (.int (1))), (.k (.int (2)))]), (.bin .pow (.k (.int (10))) (.k (.int (20))))])])),
  (.unp [8, 9, 10, 11, 12] (.call 4 [(.sl 2)])),
  (.set 3 (.bin .add (.bin .add (.bin .add (.lc 13 (.sl 8) (.fld (.sl 13) (qs [103, 105, 118, 101, 110]))) (.lc 13 (.sl 9) (.fld (.sl 13) (qs [109, 111, 115, 116])))) (.lc 13 (.sl 10) (.fld (.sl 13) (qs [110, 97, 109, 101])))) (.lst [(.fld (.ix (.sl 11) (.k (.int (0)))) (qs [112, 108, 97, 99, 101])), (.fld (.ix (.sl 11) (.k (.int (1)))) (qs [112, 108, 97, 99, 101])), (.fld (.ix (.sl 11) (.k (.int (2)))) (qs [115, 116, 97, 116, 101]))]))),
  (.set 3 (.bin .add (.sl 3) (.lst [(.fld (.ix (.sl 11) (.k (.int (3)))) (qs [105, 110, 100, 101, 120])), (.fld (.ix (.sl 11) (.k (.int (4)))) (qs [108, 105, 109, 105, 116])), (.fld (.ix (.sl 11) (.k (.int (5)))) (qs [119, 111, 114, 100])), (.fld (.ix (.sl 11) (.k (.int (6)))) (qs [108, 105, 110, 101]))]))),
  (.set 3 (.bin .add (.sl 3) (.lst [(.fld (.xck 7 (qs [103, 105, 118, 101, 110]) (.sl 2)) (qs [103, 105, 118, 101, 110])), (.fld (.xck 4 (qs [115, 116, 97, 116, 101]) (.sl 2)) (qs [115, 116, 97, 116, 101]))]))),
  (.iff (.not (.call 3 [(.sl 3), (.bin .mul (.lst [(.sl 2)]) (.k (.int (26))))])) [(.ret (.k (.bl false)))] []),
  (.set 4 (.bin .add (.bin .add (.bin .add (.bin .add (.sl 8) (.sl 9)) (.sl 10)) (.sl 11)) (.sl 12))),
  (.set 5 (.lst [(.k (.str (qs [73, 110, 118, 97, 108, 105, 100, 83, 116, 97, 116, 101, 115]))), (.k (.str (qs [73, 110, 118, 97, 108, 105, 100, 83, 116, 97, 116, 101]))), (.k (.str (qs [73, 110, 118, 97, 108, 105, 100, 87, 111, 114, 100]))), (.k (.str (qs [73, 110, 118, 97, 108, 105, 100, 80, 97, 116, 116, 101, 114, 110])))])),
  (.set 5 (.bin .add (.sl 5) (.lst [(.k (.str (qs [73, 110, 118, 97, 108, 105, 100, 78, 117, 109, 98, 101, 114]))), (.k (.str (qs [73, 110, 118, 97, 108, 105, 100, 76, 101, 118, 101, 108]))), (.k (.str (qs [73, 110, 118, 97, 108, 105, 100, 86, 97, 108, 117, 101]))), (.k (.str (qs [73, 110, 118, 97, 108, 105, 100, 76, 97, 116, 101, 110, 101, 115, 115])))]))),
  (.set 5 (.bin .add (.sl 5) (.lst [(.k (.str (qs [73, 110, 118, 97, 108, 105, 100, 87, 97, 105, 116, 105, 110, 103]))), (.k (.str (qs [73, 110, 118, 97, 108, 105, 100, 80, 108, 97, 99, 101]))), (.k (.str (qs [73, 110, 118, 97, 108, 105, 100, 76, 105, 109, 105, 116]))), (.k (.str (qs [84, 111, 111, 77, 97, 110, 121, 86, 97, 108, 117, 101, 115])))]))),
  (.set 5 (.bin .add (.sl 5) (.lst [(.k (.str (qs [84, 111, 111, 77, 97, 110, 121, 83, 116, 97, 116, 101, 115]))), (.k (.str (qs [84, 111, 111, 77, 97, 110, 121]))), (.k (.str (qs [73, 110, 118, 97, 108, 105, 100, 78, 97, 109, 101]))), (.k (.str (qs [68, 117, 112, 108, 105, 99, 97, 116, 101, 78, 97, 109, 101])))]))),
  (.set 5 (.bin .add (.sl 5) (.lst [(.k (.str (qs [85, 110, 107, 110, 111, 119, 110, 78, 97, 109, 101]))), (.k (.str (qs [65, 114, 114, 105, 118, 101, 100]))), (.k (.str (qs [84, 111, 111, 69, 97, 114, 108, 121]))), (.k (.str (qs [73, 110, 118, 97, 108, 105, 100, 77, 111, 118, 101]))), (.k (.str (qs [73, 110, 118, 97, 108, 105, 100, 79, 114, 100, 101, 114])))]))),
  (.set 5 (.bin .add (.sl 5) (.lst [(.k (.str (qs [67, 97, 112, 97, 99, 105, 116, 121, 69, 120, 99, 101, 101, 100, 101, 100]))), (.k (.str (qs [73, 110, 118, 97, 108, 105, 100, 67, 111, 109, 109, 97, 110, 100]))), (.k (.str (qs [80, 97, 114, 115, 101, 69, 114, 114, 111, 114])))]))),
  (.set 5 (.bin .add (.sl 5) (.lst [(.k (.str (qs [73, 110, 118, 97, 108, 105, 100, 65, 108, 112, 104, 97, 98, 101, 116]))), (.k (.str (qs [73, 110, 118, 97, 108, 105, 100, 84, 101, 120, 116]))), (.k (.str (qs [73, 110, 118, 97, 108, 105, 100, 84, 97, 98, 108, 101]))), (.k (.str (qs [65, 108, 112, 104, 97, 98, 101, 116, 115, 68, 105, 102, 102, 101, 114])))]))),
  (.set 5 (.bin .add (.sl 5) (.lst [(.k (.str (qs [78, 111, 116, 104, 105, 110, 103, 76, 101, 102, 116])))]))),
  (.iff (.or [(.cmp .ne (.lc 13 (.sl 4) (.fld (.sl 13) (qs [116, 97, 103]))) (.sl 5)), (.cmp .ne (.lc 13 (.sl 4) (.call 5 [(.sl 13)])) (.bin .mul (.lst [(.k (.int (1)))]) (.k (.int (29)))))]) [(.ret (.k (.bl false)))] []),
  (.iff (.cmp .ne (.lc 13 (.sl 4) (.isi (.sl 13) [(.o 0)])) (.lc 13 (.sl 4) (.cmp .notin (.fld (.sl 13) (qs [116, 97, 103])) (.lst [(.k (.str (qs [85, 110, 107, 110, 111, 119, 110, 78, 97, 109, 101]))), (.k (.str (qs [78, 111, 116, 104, 105, 110, 103, 76, 101, 102, 116])))])))) [(.ret (.k (.bl false)))] []),
  (.iff (.cmp .ne (.lc 13 (.sl 4) (.isi (.sl 13) [(.b Bt.ve)])) (.lc 13 (.sl 4) (.isi (.sl 13) [(.o 0)]))) [(.ret (.k (.bl false)))] []),
  (.set 6 (.lst [(.isi (.ix (.sl 10) (.k (.int (2)))) [(.o 1)]), (.isi (.ix (.sl 10) (.k (.int (2)))) [(.b Bt.le)])])),
  (.set 6 (.bin .add (.sl 6) (.lst [(.isi (.ix (.sl 12) (.k (.int (4)))) [(.b Bt.ie)]), (.isi (.ix (.sl 12) (.k (.int (4)))) [(.o 1)])]))),
  (.set 7 (.lst [(.fld (.xck 22 (qs [109, 111, 115, 116]) (.sl 2)) (qs [109, 111, 115, 116])), (.fld (.xck 20 (qs [112, 108, 97, 99, 101]) (.sl 2)) (qs [112, 108, 97, 99, 101]))])),
  (.set 7 (.bin .add (.sl 7) (.lst [(.fld (.xck 18 (qs [105, 110, 100, 101, 120]) (.sl 2)) (qs [105, 110, 100, 101, 120])), (.fld (.xck 27 (qs [119, 111, 114, 100]) (.sl 2)) (qs [119, 111, 114, 100]))]))),
  (.set 7 (.bin .add (.sl 7) (.lst [(.fld (.xck 28 (qs [108, 105, 110, 101]) (.sl 2)) (qs [108, 105, 110, 101]))]))),
  (.ret (.and [(.cmp .eq (.sl 6) (.lst [(.k (.bl true)), (.k (.bl true)), (.k (.bl true)), (.k (.bl false))])), (.call 3 [(.bin .add (.sl 7) (.lst [(.fld (.xck 25 (qs [108, 105, 109, 105, 116]) (.sl 2)) (qs [108, 105, 109, 105, 116])), (.fld (.xck 29 (qs [110, 97, 109, 101]) (.sl 2)) (qs [110, 97, 109, 101]))])), (.bin .mul (.lst [(.sl 2)]) (.k (.int (7))))])]))]
def dfs65 : Nat → Option Df
  | 2 => some ⟨2, 2, bd2⟩
  | 3 => some ⟨2, 4, bd3⟩
  | 4 => some ⟨1, 6, bd4⟩
  | 5 => some ⟨1, 3, bd5⟩
  | 6 => some ⟨1, 14, bd6⟩
  | _ => none
theorem cb2 : bd 34 nn2 = some bd2 := by kernel_rfl
theorem cb3 : bd 35 nn3 = some bd3 := by kernel_rfl
theorem cb4 : bd 37 nn4 = some bd4 := by kernel_rfl
theorem cb5 : bd 38 nn5 = some bd5 := by kernel_rfl
theorem cb6 : bd 39 nn6 = some bd6 := by kernel_rfl
def isT : Mi.D × List AO → Bool := fun r => match r.1 with
  | .bl b => b
  | _ => false
end Mi
open PySem L2 Mi
namespace Mi
def run65 : Out := evF gs65 dfs65 8 6 [.scr] []
theorem ev0 : (run65.pick 0).chk isT = true := by kernel_rfl
theorem ev1 : (run65.pick 1).chk isT = true := by kernel_rfl
theorem ev2 : (run65.pick 2).chk isT = true := by kernel_rfl
theorem ev3 : (run65.pick 3).chk isT = true := by kernel_rfl
theorem ev4 : (run65.pick 4).chk isT = true := by kernel_rfl
theorem evw : run65.width ≤ 5 := by
  have : run65.width = 5 := by kernel_rfl
  rw [this]
  exact Nat.le_refl _
theorem run_ok : run65.Sat (fun a => isT a = true) (fun _ _ => False) := T.pick_ok evw (by decide) fun j hj => by
  match j, hj with
  | 0, _ => exact ev0
  | 1, _ => exact ev1
  | 2, _ => exact ev2
  | 3, _ => exact ev3
  | 4, _ => exact ev4
end Mi
namespace Mi
open PySem PySem.Spec PyProof.Rows L2 PySem.W
def flds65 (c : Nat) : List Str := match xcl65 c with
  | some (_, none) => ["tag"]
  | some (_, some p) => ["tag", p]
  | none => []
def exChk (K : Frag) (cls : Nat → Addr) : Bool := (List.range 31).all fun c => decide (c < 2) || exOk K (cls c) (flds65 c)
def xcChk (K : Frag) (file : Str) (cls : Nat → Addr) : Bool := (List.range 31).all fun c => decide (c < 2) || match xtab[c]? with
  | some (b, tag, o) => xcOk K file (cls c) b tag o
  | none => false
def fxChk (K : Frag) (cls : Nat → Addr) : Bool := (List.range 31).all fun i => decide (i < 2) || ((List.range 31).all (fun j => decide (kitOne K (.ref (cls i)) (.ref (cls j)) = sub65 (.o i) (.o j))) &&
  (decide (kitOne K (.ref (cls i)) (.type "ValueError") = sub65 (.o i) (.b .ve)) && (decide (kitOne K (.ref (cls i)) (.type "LookupError") = sub65 (.o i) (.b .le)) && decide (kitOne K (.ref (cls i)) (.type "IndexError") = sub65 (.o i) (.b .ie)))))
theorem xcl_at {c : Nat} {q : Str × Option Str} (h : xcl65 c = some q) : 2 ≤ c ∧ c < 31 ∧ ∃ b, xtab[c]? = some (b, q) := by
  unfold xcl65 at h
  split at h
  · rename_i h2
    rw [Option.map_eq_some_iff] at h
    obtain ⟨⟨b, q'⟩, h1, rfl⟩ := h
    exact ⟨h2, (List.getElem?_eq_some_iff.mp h1).1, b, h1⟩
  · cases h
theorem pickN {n c : Nat} {p : Nat → Bool} (h : ((List.range n).all fun c => decide (c < 2) || p c) = true) (h2 : 2 ≤ c) (hn : c < n) : p c = true := by
  have := List.all_eq_true.mp h c (List.mem_range.mpr hn)
  rw [Bool.or_eq_true] at this
  rcases this with q | q
  · have := of_decide_eq_true q; omega
  · exact q
theorem fx65 {K : Frag} {mg : Str → Option Value} {cls fns : Nat → Addr} (h1 : exChk K cls = true) (h2 : fxChk K cls = true) : Fx gs65 ⟨K, mg, cls, fns⟩ K where
  sub := fun t c b h => by
    cases t with
    | o i =>
      cases c with
      | o j =>
        have h' := h
        simp only [gs65, sub65] at h
        split at h
        · rename_i q
          have a := pickN h2 q.1 q.2.1
          obtain ⟨a1, _⟩ := b2 a
          have a1 := of_decide_eq_true (List.all_eq_true.mp a1 j (List.mem_range.mpr q.2.2))
          exact a1.trans h'
        · cases h
      | b n =>
        cases n with
        | ve =>
          have h' := h
          simp only [gs65, sub65] at h
          split at h
          · rename_i q
            exact (of_decide_eq_true (b2 (b2 (pickN h2 q.1 q.2)).2).1).trans h'
          · cases h
        | le =>
          have h' := h
          simp only [gs65, sub65] at h
          split at h
          · rename_i q
            exact (of_decide_eq_true (b2 (b2 (b2 (pickN h2 q.1 q.2)).2).2).1).trans h'
          · cases h
        | ie =>
          have h' := h
          simp only [gs65, sub65] at h
          split at h
          · rename_i q
            exact (of_decide_eq_true (b2 (b2 (b2 (pickN h2 q.1 q.2)).2).2).2).trans h'
          · cases h
        | _ => cases h
    | b a =>
      cases c with
      | o j => cases h
      | b n => exact subB_ok K a n b h
  own := fun c t b h => by
    have key : 2 ≤ c ∧ c < 31 := by
      cases t with
      | o j =>
        simp only [gs65, sub65] at h
        split at h
        · rename_i q; exact ⟨q.1, q.2.1⟩
        · cases h
      | b n =>
        cases n <;> simp only [gs65, sub65] at h <;> first
          | (split at h
             · assumption
             · cases h)
          | cases h
    exact (exOk_ok (pickN h1 key.1 key.2)).1
  fld := fun c f h => by
    unfold hasF at h
    split at h
    · rename_i tag e
      obtain ⟨a, b, _⟩ := xcl_at e
      have q := exOk_ok (pickN h1 a b)
      refine ⟨q.2.1, q.2.2.1 f ?_⟩
      unfold flds65
      rw [show xcl65 c = some (tag, none) from e]
      rw [of_decide_eq_true h]
      exact List.mem_singleton.mpr rfl
    · rename_i tag p e
      obtain ⟨a, b, _⟩ := xcl_at e
      have q := exOk_ok (pickN h1 a b)
      refine ⟨q.2.1, q.2.2.1 f ?_⟩
      unfold flds65
      rw [show xcl65 c = some (tag, some p) from e]
      rw [Bool.or_eq_true] at h
      rcases h with h | h
      · rw [of_decide_eq_true h]; exact List.mem_cons_self
      · rw [of_decide_eq_true h]; exact List.mem_cons_of_mem _ (List.mem_singleton.mpr rfl)
    · cases h
theorem fn6 {x : Str} {f : Nat} (h : gl65 x = some (.fn f)) : f < 7 := by
  have key : glt.all (fun q => match q.2 with | .fn f => decide (f < 7) | _ => true) = true := by kernel_rfl
  unfold gl65 glOf2 at h
  split at h
  · rename_i q hq
    cases h
    exact of_decide_eq_true (List.all_eq_true.mp key _ (PySem.mem_of_lookup hq))
  · rw [Option.map_eq_some_iff] at h
    obtain ⟨n, _, h⟩ := h
    cases h
def spLaw (K : Frag) : Sp := fun vs H Q _ => ∃ (a : Addr) (ns : List Int), vs = [.ref a] ∧ SqL K H a (ns.map V.int) ∧ ns.length ≤ 63 ∧ ∀ H', Q (.bl true) H'
abbrev row65 : OpenLaw := PySem.Challenge.rw_earlytold_k65_errors_by_themselves
theorem sc2 : FnScope nn2 ["_law_bag_here", "_law_things"] (defScope (top 34)) := ⟨rfl, rfl, rfl, by decide +kernel, rfl, by decide +kernel, by decide +kernel⟩
theorem sc3 : FnScope nn3 ["_law_found", "_law_due"] (defScope (top 35)) := ⟨rfl, rfl, rfl, by decide +kernel, rfl, by decide +kernel, by decide +kernel⟩
theorem sc4 : FnScope nn4 ["_law_value"] (defScope (top 37)) := ⟨rfl, rfl, rfl, by decide +kernel, rfl, by decide +kernel, by decide +kernel⟩
theorem sc5 : FnScope nn5 ["_law_e"] (defScope (top 38)) := ⟨rfl, rfl, rfl, by decide +kernel, rfl, by decide +kernel, by decide +kernel⟩
theorem sc6 : FnScope nn6 ["_law_script"] (defScope (top 39)) := ⟨rfl, rfl, rfl, by decide +kernel, rfl, by decide +kernel, by decide +kernel⟩
section
variable {P : Program} {w : World} {K : Frag} {mg : Str → Option Value} {base : Heap} {g : Gv}
theorem lv65 (hK : g.K = K) (B : Behind P w K mg g gs65 gl65) (mI : mg "int" = none) (mL : mg "list" = none) (mN : mg "len" = none) {fd0 : FuncData} (F0 : L2.Fun K "_law_bag" "_law_bag" (top 36) (g.fns 0) fd0) (b0 : Binds K fd0 ["_law_script"] []) {fd1 : FuncData} (F1 : L2.Fun K "_law_pull" "_law_pull" (top 33) (g.fns 1) fd1) (b1 : Binds K fd1 ["_law_bag_here", "_law_amount"] []) {fd2 : FuncData} (F2 : L2.Fun K "_law_of" "_law_of" (top 34) (g.fns 2) fd2) (b2 : Binds K fd2 ["_law_bag_here", "_law_things"] []) {fd3 : FuncData} (F3 : L2.Fun K "_law_same" "_law_same" (top 35) (g.fns 3) fd3) (b3 : Binds K fd3 ["_law_found", "_law_due"] []) {fd4 : FuncData} (F4 : L2.Fun K "_law_made_errors" "_law_made_errors" (top 37) (g.fns 4) fd4) (b4 : Binds K fd4 ["_law_value"] []) {fd5 : FuncData} (F5 : L2.Fun K "_law_kinds_of" "_law_kinds_of" (top 38) (g.fns 5) fd5) (b5 : Binds K fd5 ["_law_e"] []) {fd6 : FuncData} (F6 : L2.Fun K "law" "law" (top 39) (g.fns 6) fd6) (b6 : Binds K fd6 ["_law_script"] []) : ∀ m f, f < 7 → FnL P w K mg base g (evF gs65 dfs65 m) (m + 4) f
  | 0, f, hf => by
    match f, hf with
    | 0, _ => exact fnL_zero F0.kp b0
    | 1, _ => exact fnL_zero F1.kp b1
    | 2, _ => exact fnL_zero F2.kp b2
    | 3, _ => exact fnL_zero F3.kp b3
    | 4, _ => exact fnL_zero F4.kp b4
    | 5, _ => exact fnL_zero F5.kp b5
    | 6, _ => exact fnL_zero F6.kp b6
  | m + 1, f, hf => by
    have ih : ∀ x f, gl65 x = some (.fn f) → FnL P w K mg base g (evF gs65 dfs65 m) (m + 4) f := fun x f h => lv65 hK B mI mL mN F0 b0 F1 b1 F2 b2 F3 b3 F4 b4 F5 b5 F6 b6 m f (fn6 h)
    match f, hf with
    | 0, _ => exact ok_bag hK F0 b0 mI mL
    | 1, _ => exact ok_pull hK F1 b1 mI mN
    | 2, _ => exact fnL_up (d := ⟨"_law_of", top 34, nn2, ["_law_bag_here", "_law_things"]⟩) B F2 b2 sc2 cb2 rfl (by omega) ih
    | 3, _ => exact fnL_up (d := ⟨"_law_same", top 35, nn3, ["_law_found", "_law_due"]⟩) B F3 b3 sc3 cb3 rfl (by omega) ih
    | 4, _ => exact fnL_up (d := ⟨"_law_made_errors", top 37, nn4, ["_law_value"]⟩) B F4 b4 sc4 cb4 rfl (by omega) ih
    | 5, _ => exact fnL_up (d := ⟨"_law_kinds_of", top 38, nn5, ["_law_e"]⟩) B F5 b5 sc5 cb5 rfl (by omega) ih
    | 6, _ => exact fnL_up (d := ⟨"law", top 39, nn6, ["_law_script"]⟩) B F6 b6 sc6 cb6 rfl (by omega) ih
end
def cls65 (C0 C1 C2 C3 C4 C5 C6 C7 C8 C9 C10 C11 C12 C13 C14 C15 C16 C17 C18 C19 C20 C21 C22 C23 C24 C25 C26 C27 C28 C29 C30 : Addr) : Nat → Addr := fun c => [C0, C1, C2, C3, C4, C5, C6, C7, C8, C9, C10, C11, C12, C13, C14, C15, C16, C17, C18, C19, C20, C21, C22, C23, C24, C25, C26, C27, C28, C29, C30].getD c 0
def fns65 (f0 f1 f2 f3 f4 f5 f6 : Addr) : Nat → Addr := fun c => [f0, f1, f2, f3, f4, f5, f6].getD c 0
theorem all65 {w : World} {K : Frag} {h : Heap} {mg : Str → Option Value} {fa C0 C1 C2 C3 C4 C5 C6 C7 C8 C9 C10 C11 C12 C13 C14 C15 C16 C17 C18 C19 C20 C21 C22 C23 C24 C25 C26 C27 C28 C29 C30 f0 f1 f2 f3 f4 f5 f6 : Addr} (X : K.In h) (G : h.Ns mainGlobals mg) (hfa : mg "law" = some (.ref fa))
    {oc0 kV0 dc0 pm0 cd0 ct0 : Value} {od0 an0 : Option Addr} {sl0 : Array (Option Value)}
    {oc1 kV1 dc1 pm1 cd1 ct1 : Value} {od1 an1 : Option Addr} {sl1 : Array (Option Value)}
    {oc2 kV2 dc2 pm2 cd2 ct2 : Value} {od2 an2 : Option Addr} {sl2 : Array (Option Value)}
    {oc3 kV3 dc3 pm3 cd3 ct3 : Value} {od3 an3 : Option Addr} {sl3 : Array (Option Value)}
    {oc4 kV4 dc4 pm4 cd4 ct4 : Value} {od4 an4 : Option Addr} {sl4 : Array (Option Value)}
    {oc5 kV5 dc5 pm5 cd5 ct5 : Value} {od5 an5 : Option Addr} {sl5 : Array (Option Value)}
    {oc6 kV6 dc6 pm6 cd6 ct6 : Value} {od6 an6 : Option Addr} {sl6 : Array (Option Value)}
    (a0 : nsIn K mainGlobals "EarlyError" = some (some (.ref C0)))
    (a1 : nsIn K mainGlobals "Missing" = some (some (.ref C1)))
    (a2 : nsIn K mainGlobals "InvalidAlphabet" = some (some (.ref C2)))
    (a3 : nsIn K mainGlobals "InvalidStates" = some (some (.ref C3)))
    (a4 : nsIn K mainGlobals "InvalidMove" = some (some (.ref C4)))
    (a5 : nsIn K mainGlobals "TooManyValues" = some (some (.ref C5)))
    (a6 : nsIn K mainGlobals "TooManyStates" = some (some (.ref C6)))
    (a7 : nsIn K mainGlobals "InvalidState" = some (some (.ref C7)))
    (a8 : nsIn K mainGlobals "InvalidWord" = some (some (.ref C8)))
    (a9 : nsIn K mainGlobals "InvalidText" = some (some (.ref C9)))
    (a10 : nsIn K mainGlobals "InvalidPattern" = some (some (.ref C10)))
    (a11 : nsIn K mainGlobals "InvalidNumber" = some (some (.ref C11)))
    (a12 : nsIn K mainGlobals "InvalidLevel" = some (some (.ref C12)))
    (a13 : nsIn K mainGlobals "InvalidValue" = some (some (.ref C13)))
    (a14 : nsIn K mainGlobals "InvalidTable" = some (some (.ref C14)))
    (a15 : nsIn K mainGlobals "AlphabetsDiffer" = some (some (.ref C15)))
    (a16 : nsIn K mainGlobals "InvalidLateness" = some (some (.ref C16)))
    (a17 : nsIn K mainGlobals "InvalidWaiting" = some (some (.ref C17)))
    (a18 : nsIn K mainGlobals "InvalidOrder" = some (some (.ref C18)))
    (a19 : nsIn K mainGlobals "InvalidPlace" = some (some (.ref C19)))
    (a20 : nsIn K mainGlobals "Arrived" = some (some (.ref C20)))
    (a21 : nsIn K mainGlobals "TooEarly" = some (some (.ref C21)))
    (a22 : nsIn K mainGlobals "TooMany" = some (some (.ref C22)))
    (a23 : nsIn K mainGlobals "InvalidName" = some (some (.ref C23)))
    (a24 : nsIn K mainGlobals "DuplicateName" = some (some (.ref C24)))
    (a25 : nsIn K mainGlobals "CapacityExceeded" = some (some (.ref C25)))
    (a26 : nsIn K mainGlobals "InvalidLimit" = some (some (.ref C26)))
    (a27 : nsIn K mainGlobals "InvalidCommand" = some (some (.ref C27)))
    (a28 : nsIn K mainGlobals "ParseError" = some (some (.ref C28)))
    (a29 : nsIn K mainGlobals "UnknownName" = some (some (.ref C29)))
    (a30 : nsIn K mainGlobals "NothingLeft" = some (some (.ref C30)))
    (g0 : nsIn K mainGlobals "_law_bag" = some (some (.ref f0))) (l0 : K.lookup f0 = some ⟨oc0, od0, .func (fnOf "_law_bag" "_law_bag" (defArgs (top 36)) (defBody (top 36)) (defScope (top 36)) .none kV0 dc0 pm0 an0 cd0 ct0), sl0⟩) (c0 : codeIn K cd0 "_law_bag" = true) (k0 : keepIn K (.ref f0) = true)
    (g1 : nsIn K mainGlobals "_law_pull" = some (some (.ref f1))) (l1 : K.lookup f1 = some ⟨oc1, od1, .func (fnOf "_law_pull" "_law_pull" (defArgs (top 33)) (defBody (top 33)) (defScope (top 33)) .none kV1 dc1 pm1 an1 cd1 ct1), sl1⟩) (c1 : codeIn K cd1 "_law_pull" = true) (k1 : keepIn K (.ref f1) = true)
    (g2 : nsIn K mainGlobals "_law_of" = some (some (.ref f2))) (l2 : K.lookup f2 = some ⟨oc2, od2, .func (fnOf "_law_of" "_law_of" (defArgs (top 34)) (defBody (top 34)) (defScope (top 34)) .none kV2 dc2 pm2 an2 cd2 ct2), sl2⟩) (c2 : codeIn K cd2 "_law_of" = true) (k2 : keepIn K (.ref f2) = true)
    (g3 : nsIn K mainGlobals "_law_same" = some (some (.ref f3))) (l3 : K.lookup f3 = some ⟨oc3, od3, .func (fnOf "_law_same" "_law_same" (defArgs (top 35)) (defBody (top 35)) (defScope (top 35)) .none kV3 dc3 pm3 an3 cd3 ct3), sl3⟩) (c3 : codeIn K cd3 "_law_same" = true) (k3 : keepIn K (.ref f3) = true)
    (g4 : nsIn K mainGlobals "_law_made_errors" = some (some (.ref f4))) (l4 : K.lookup f4 = some ⟨oc4, od4, .func (fnOf "_law_made_errors" "_law_made_errors" (defArgs (top 37)) (defBody (top 37)) (defScope (top 37)) .none kV4 dc4 pm4 an4 cd4 ct4), sl4⟩) (c4 : codeIn K cd4 "_law_made_errors" = true) (k4 : keepIn K (.ref f4) = true)
    (g5 : nsIn K mainGlobals "_law_kinds_of" = some (some (.ref f5))) (l5 : K.lookup f5 = some ⟨oc5, od5, .func (fnOf "_law_kinds_of" "_law_kinds_of" (defArgs (top 38)) (defBody (top 38)) (defScope (top 38)) .none kV5 dc5 pm5 an5 cd5 ct5), sl5⟩) (c5 : codeIn K cd5 "_law_kinds_of" = true) (k5 : keepIn K (.ref f5) = true)
    (g6 : nsIn K mainGlobals "law" = some (some (.ref f6))) (l6 : K.lookup f6 = some ⟨oc6, od6, .func (fnOf "law" "law" (defArgs (top 39)) (defBody (top 39)) (defScope (top 39)) .none kV6 dc6 pm6 an6 cd6 ct6), sl6⟩) (c6 : codeIn K cd6 "law" = true) (k6 : keepIn K (.ref f6) = true)
    (s1 : nsIn K mainGlobals "super" = some none) (s2 : nsIn K mainGlobals "list" = some none) (t1 : glChk K (cls65 C0 C1 C2 C3 C4 C5 C6 C7 C8 C9 C10 C11 C12 C13 C14 C15 C16 C17 C18 C19 C20 C21 C22 C23 C24 C25 C26 C27 C28 C29 C30) (fns65 f0 f1 f2 f3 f4 f5 f6) glt tyt = true) (t2 : exChk K (cls65 C0 C1 C2 C3 C4 C5 C6 C7 C8 C9 C10 C11 C12 C13 C14 C15 C16 C17 C18 C19 C20 C21 C22 C23 C24 C25 C26 C27 C28 C29 C30) = true) (t3 : fxChk K (cls65 C0 C1 C2 C3 C4 C5 C6 C7 C8 C9 C10 C11 C12 C13 C14 C15 C16 C17 C18 C19 C20 C21 C22 C23 C24 C25 C26 C27 C28 C29 C30) = true) (t4 : xcChk K row65.prog.main.file (cls65 C0 C1 C2 C3 C4 C5 C6 C7 C8 C9 C10 C11 C12 C13 C14 C15 C16 C17 C18 C19 C20 C21 C22 C23 C24 C25 C26 C27 C28 C29 C30) = true) (t5 : (row65.prog.main.scope.names.lookup ("super" : Str)).isSome = false) :
    ∃ fd : FuncData, (∀ (s : Shared) (v : Value), BindsTo s fd ⟨[v], []⟩ [("_law_script", v)]) ∧ ∀ base : Heap, K.In base → base.Ns mainGlobals mg → FnOk row65.prog w K mg base CX0 12 fa fd ["_law_script"] (spLaw K) := by
  have e : f6 = fa := by
    have q := hfa.symm.trans (mg_of X G g6)
    injection q with q
    injection q with q
    exact q.symm
  subst e
  have F0 := fun_mk (st := top 36) l0 c0 k0
  have F1 := fun_mk (st := top 33) l1 c1 k1
  have F2 := fun_mk (st := top 34) l2 c2 k2
  have F3 := fun_mk (st := top 35) l3 c3 k3
  have F4 := fun_mk (st := top 37) l4 c4 k4
  have F5 := fun_mk (st := top 38) l5 c5 k5
  have F6 := fun_mk (st := top 39) l6 c6 k6
  have b0 := F0.binds (ps := ["_law_script"]) fun _ _ _ _ _ _ us hl => match us, hl with | [_], _ => rfl
  have b1 := F1.binds (ps := ["_law_bag_here", "_law_amount"]) fun _ _ _ _ _ _ us hl => match us, hl with | [_, _], _ => rfl
  have b2 := F2.binds (ps := ["_law_bag_here", "_law_things"]) fun _ _ _ _ _ _ us hl => match us, hl with | [_, _], _ => rfl
  have b3 := F3.binds (ps := ["_law_found", "_law_due"]) fun _ _ _ _ _ _ us hl => match us, hl with | [_, _], _ => rfl
  have b4 := F4.binds (ps := ["_law_value"]) fun _ _ _ _ _ _ us hl => match us, hl with | [_], _ => rfl
  have b5 := F5.binds (ps := ["_law_e"]) fun _ _ _ _ _ _ us hl => match us, hl with | [_], _ => rfl
  have b6 := F6.binds (ps := ["_law_script"]) fun _ _ _ _ _ _ us hl => match us, hl with | [_], _ => rfl
  have xa : XcAll K row65.prog mg ⟨K, mg, (cls65 C0 C1 C2 C3 C4 C5 C6 C7 C8 C9 C10 C11 C12 C13 C14 C15 C16 C17 C18 C19 C20 C21 C22 C23 C24 C25 C26 C27 C28 C29 C30), (fns65 f0 f1 f2 f3 f4 f5 f6)⟩ gs65 := ⟨fun c tag o hc => by
    obtain ⟨q1, q2, b, q3⟩ := xcl_at hc
    have z := pickN t4 q1 q2
    rw [q3] at z
    obtain ⟨fI, fd, cc, cda, p, txt, ar, z1, z2⟩ := xcOk_ok (mg := mg) z (mg_none_of X G s1) t5
    exact ⟨b, fI, fd, cc, cda, p, txt, ar, z1, z2⟩⟩
  have gf := glF_of X G t1
  have B : Behind row65.prog w K mg ⟨K, mg, (cls65 C0 C1 C2 C3 C4 C5 C6 C7 C8 C9 C10 C11 C12 C13 C14 C15 C16 C17 C18 C19 C20 C21 C22 C23 C24 C25 C26 C27 C28 C29 C30), (fns65 f0 f1 f2 f3 f4 f5 f6)⟩ gs65 gl65 := ⟨fx65 t2 t3, gf, fun c q hc => by
      obtain ⟨q1, q2, _⟩ := xcl_at hc
      exact (exOk_ok (pickN t2 q1 q2)).2.2.2,
    fun Y y1 y2 y3 y4 y5 y6 => xcR_of y6 (by rw [y1, y3, y4]; exact xa)⟩
  refine ⟨fnOf "law" "law" (defArgs (top 39)) (defBody (top 39)) (defScope (top 39)) .none kV6 dc6 pm6 an6 cd6 ct6, fun s v => .of_eq rfl, fun base _ _ => ?_⟩
  have L := fnOk_up (f := 4) (m := 7) (lv := 11) (base := base) (d := ⟨"law", top 39, nn6, ["_law_script"]⟩) B F6 sc6 cb6 (defs := dfs65) rfl (by decide) (fun x f hx => lv65 (P := row65.prog) (w := w) (base := base) (g := ⟨K, mg, (cls65 C0 C1 C2 C3 C4 C5 C6 C7 C8 C9 C10 C11 C12 C13 C14 C15 C16 C17 C18 C19 C20 C21 C22 C23 C24 C25 C26 C27 C28 C29 C30), (fns65 f0 f1 f2 f3 f4 f5 f6)⟩) rfl B (gf.bi "int" .int rfl).2 (mg_none_of X G s2) (gf.bi "len" .len rfl).2 F0 b0 F1 b1 F2 b2 F3 b3 F4 b4 F5 b5 F6 b6 7 f (fn6 hx))
  refine L.imp fun vs H Q E hh => ?_
  obtain ⟨a, ns, rfl, hs, hl, hq⟩ := hh
  refine ⟨rfl, [], [], [.scr], ⟨List.nodup_nil, rfl, fun _ _ _ z => by cases z⟩, .cons (.scr (FrS.start hs hl)) .nil, ?_⟩
  refine T.Sat.mono run_ok (fun r hr rho' H' v e hr' rv => ?_) fun _ _ z => z
  obtain ⟨d, A⟩ := r
  cases d with
  | bl b =>
    have : b = true := hr
    subst this
    cases rv
    exact hq H'
  | _ => cases hr
theorem walk65 {q : Program} {loose : List Str} {XP : (Str → Option Value) → Heap → Prop} {YP : World → Heap → Prop} {d : DefRec} {K : Params → Frag} (hdf : d.params.defaults = []) (hY : ∀ (w : World) (h : Heap), YP w h → (K w.params).In h)
    (F : ∀ (w : World) (mg : Str → Option Value) (fa : Addr) (h : Heap), (K w.params).In h → h.Ns mainGlobals mg → mg d.name = some (.ref fa) →
      ∃ fd : FuncData, (∀ (s : Shared) (u : Value), BindsTo s fd ⟨[u], []⟩ [("_law_script", u)]) ∧ ∀ base : Heap, (K w.params).In base → base.Ns mainGlobals mg → FnOk row65.prog w (K w.params) mg base CX0 12 fa fd ["_law_script"] (spLaw (K w.params))) :
    WalkO q loose XP YP row65.row.toRowW d [] (fun f vs => PySem.call f vs) :=
  L2.walk_of (l := row65) (n := 63) (k := 12) (x := "_law_script") (CX := fun _ => CX0) (sp := fun w => spLaw (K w.params)) rfl (by decide) hdf ⟨rfl, by decide, by decide⟩ hY F (fun _ _ a ns hl _ hS => ⟨a, ns, rfl, hS, hl, fun _ => rfl⟩) fun _ _ _ _ _ z => z
end Mi
open PySem PySem.W PyProof.Rows
set_option maxRecDepth 100000 in
set_option maxHeartbeats 0 in
theorem PySem.Challenge.cw_earlytold_k65_errors_by_themselves_holds : PySem.Challenge.rw_earlytold_k65_errors_by_themselves.Holds := by
  w_on; o_law; k_headL; (case hw => w_witness2)
  k_fill
  refine Mi.walk65 rfl (fun w h Y => PySem.W.kIn_of Y) ?F
  case F =>
    intro w mg fa h KX G hmg
    refine' Mi.all65 KX G hmg ?a0 ?a1 ?a2 ?a3 ?a4 ?a5 ?a6 ?a7 ?a8 ?a9 ?a10 ?a11 ?a12 ?a13 ?a14 ?a15 ?a16 ?a17 ?a18 ?a19 ?a20 ?a21 ?a22 ?a23 ?a24 ?a25 ?a26 ?a27 ?a28 ?a29 ?a30 ?g0 ?l0 ?c0 ?k0 ?g1 ?l1 ?c1 ?k1 ?g2 ?l2 ?c2 ?k2 ?g3 ?l3 ?c3 ?k3 ?g4 ?l4 ?c4 ?k4 ?g5 ?l5 ?c5 ?k5 ?g6 ?l6 ?c6 ?k6 ?s1 ?s2 ?t1 ?t2 ?t3 ?t4 ?t5
    (case a0 => k_is)
    (case a1 => k_is)
    (case a2 => k_is)
    (case a3 => k_is)
    (case a4 => k_is)
    (case a5 => k_is)
    (case a6 => k_is)
    (case a7 => k_is)
    (case a8 => k_is)
    (case a9 => k_is)
    (case a10 => k_is)
    (case a11 => k_is)
    (case a12 => k_is)
    (case a13 => k_is)
    (case a14 => k_is)
    (case a15 => k_is)
    (case a16 => k_is)
    (case a17 => k_is)
    (case a18 => k_is)
    (case a19 => k_is)
    (case a20 => k_is)
    (case a21 => k_is)
    (case a22 => k_is)
    (case a23 => k_is)
    (case a24 => k_is)
    (case a25 => k_is)
    (case a26 => k_is)
    (case a27 => k_is)
    (case a28 => k_is)
    (case a29 => k_is)
    (case a30 => k_is)
    (case g0 => k_is)
    (case l0 => k_is)
    (case c0 => k_is)
    (case k0 => k_is)
    (case g1 => k_is)
    (case l1 => k_is)
    (case c1 => k_is)
    (case k1 => k_is)
    (case g2 => k_is)
    (case l2 => k_is)
    (case c2 => k_is)
    (case k2 => k_is)
    (case g3 => k_is)
    (case l3 => k_is)
    (case c3 => k_is)
    (case k3 => k_is)
    (case g4 => k_is)
    (case l4 => k_is)
    (case c4 => k_is)
    (case k4 => k_is)
    (case g5 => k_is)
    (case l5 => k_is)
    (case c5 => k_is)
    (case k5 => k_is)
    (case g6 => k_is)
    (case l6 => k_is)
    (case c6 => k_is)
    (case k6 => k_is)
    (case s1 => k_is)
    (case s2 => k_is)
    (case t1 => kernel_rfl)
    (case t2 => kernel_rfl)
    (case t3 => kernel_rfl)
    (case t4 => kernel_rfl)
    (case t5 => kernel_rfl)

